import JvmDerived
import JvmDerived.Pilot.@@N@@Statement
import JvmDerived.Pilot.@@N@@Code
set_option linter.unusedVariables false
set_option linter.unusedSimpArgs false
@@BLOCK:NumsL.lean.txt@@
namespace Jvm.LM
open Sem ClassFile Op Lib Jvm.Stand Jvm.Free Jvm.LawKit Jvm.RoadKit
/-! A small machine over plain data that mirrors the bytecode of one class and of a law over it. -/
abbrev Lv := List (Option Value)
abbrev St := (Nat → Nat → Int32) × (Nat → Nat → Int64)
abbrev Cd := List (Nat × Instr × Nat)
/-- name, descriptor, kind (0 int, 1 boolean, 2 long, 3+j the j-th array), final -/
abbrev Fe := String × String × Nat × Bool
/-- name, descriptor, number of arguments, return kind (0 none, 1 int, 2 boolean, 3 long), code, max_locals, room: frames, locals -/
abbrev Me := String × String × Nat × Nat × Cd × Nat × Nat × Nat
/-- class name, fields, arrays (kind, length), pool to field, pool to method, pool to constant, methods, pool index of Object's constructor -/
abbrev Cl := String × List (Nat × Fe) × List (Nat × Nat) × List (Nat × Nat) × List (Nat × Nat) × List (Nat × Value) × List (Nat × Me) × Nat
def Me.nm (m : Me) : String := m.1
def Me.ds (m : Me) : String := m.2.1
def Me.na (m : Me) : Nat := m.2.2.1
def Me.rt (m : Me) : Nat := m.2.2.2.1
def Me.cd (m : Me) : Cd := m.2.2.2.2.1
def Me.ml (m : Me) : Nat := m.2.2.2.2.2.1
def Me.rf (m : Me) : Nat := m.2.2.2.2.2.2.1
def Me.rl (m : Me) : Nat := m.2.2.2.2.2.2.2
def Cl.nm (P : Cl) : String := P.1
def Cl.fs (P : Cl) : List (Nat × Fe) := P.2.1
def Cl.al (P : Cl) : List (Nat × Nat) := P.2.2.1
def Cl.fx (P : Cl) : List (Nat × Nat) := P.2.2.2.1
def Cl.mx (P : Cl) : List (Nat × Nat) := P.2.2.2.2.1
def Cl.kx (P : Cl) : List (Nat × Value) := P.2.2.2.2.2.1
def Cl.ms (P : Cl) : List (Nat × Me) := P.2.2.2.2.2.2.1
def Cl.oi (P : Cl) : Nat := P.2.2.2.2.2.2.2
def gI (s : St) (c j : Nat) : Int32 := s.1 c j
def gL (s : St) (c j : Nat) : Int64 := s.2 c j
def sI (s : St) (c j : Nat) (v : Int32) : St := (fun a b => if a = c ∧ b = j then v else s.1 a b, s.2)
def sL (s : St) (c j : Nat) (v : Int64) : St := (s.1, fun a b => if a = c ∧ b = j then v else s.2 a b)
def s0 : St := (fun _ _ => 0, fun _ _ => 0)
def ix (i : Int32) : Nat := i.toNatClampNeg
abbrev inb (n : Nat) (i : Int32) : Prop := 0 ≤ i.toInt ∧ i.toInt < (n : Int)
def asc {α : Type} : List (Nat × α) → Nat → Option α
  | [], _ => none
  | (a, b) :: r, k => match Nat.beq a k with
    | true => some b
    | false => asc r k
def fetch : Cd → Nat → Option (Instr × Nat)
  | [], _ => none
  | (a, b) :: r, k => match Nat.beq a k with
    | true => some b
    | false => fetch r k
def ilen : Instr → Nat
  | .iload _ => 2 | .lload _ => 2 | .aload _ => 2 | .istore _ => 2 | .lstore _ => 2 | .astore _ => 2 | .bipush _ => 2 | .ldc _ => 2 | .newarray _ => 2
  | .sipush _ => 3 | .iinc _ _ => 3 | .goto _ => 3 | .ifCond _ _ => 3 | .if_icmp _ _ => 3 | .getfield _ => 3 | .putfield _ => 3
  | .invokevirtual _ => 3 | .invokespecial _ => 3 | .invokestatic _ => 3 | .new _ => 3 | .ldc2_w _ => 3
  | _ => 1
def isSw : Instr → Bool
  | .tableswitch _ _ _ _ => true
  | _ => false
def clr (ls : Lv) : Nat → Lv
  | 0 => ls
  | j + 1 => match ls[j]? with
    | some (some (.long _)) => ls.set j none
    | some (some (.double _)) => ls.set j none
    | _ => ls
/-- a store into the local variables: a long takes two -/
def stl (ls : Lv) (i : Nat) (v : Value) : Option Lv :=
  match v with
  | .long x => if i + 1 < ls.length then some (((clr ls i).set i (some (.long x))).set (i + 1) none) else none
  | w => if i < ls.length then some ((clr ls i).set i (some w)) else none
def br (cd : ClassFile.Cond) (x y : Int32) (a b : Nat) : Nat :=
  match cd with
  | .eq => if x = y then a else b
  | .ne => if x = y then b else a
  | .lt => if x < y then a else b
  | .ge => if x < y then b else a
  | .gt => if y < x then a else b
  | .le => if y < x then b else a
def jmp (pc : Nat) (o : Int) : Nat := ((pc : Int) + o).toNat
def qstep (i : Instr) (pc : Nat) (st : List Value) : Option (Nat × List Value) :=
  match i with
  | .iconst v => some (pc + 1, .int (Int32.ofInt v) :: st)
  | .bipush v => some (pc + 2, .int (Int8.ofInt v).toInt32 :: st)
  | .sipush v => some (pc + 3, .int (Int16.ofInt v).toInt32 :: st)
  | .lconst k => some (pc + 1, .long (Int64.ofNat k) :: st)
  | .iadd => match st with | .int y :: .int x :: r => some (pc + 1, .int (x + y) :: r) | _ => none
  | .isub => match st with | .int y :: .int x :: r => some (pc + 1, .int (x - y) :: r) | _ => none
  | .imul => match st with | .int y :: .int x :: r => some (pc + 1, .int (x * y) :: r) | _ => none
  | .iand => match st with | .int y :: .int x :: r => some (pc + 1, .int (x &&& y) :: r) | _ => none
  | .ior => match st with | .int y :: .int x :: r => some (pc + 1, .int (x ||| y) :: r) | _ => none
  | .ixor => match st with | .int y :: .int x :: r => some (pc + 1, .int (x ^^^ y) :: r) | _ => none
  | .ishl => match st with | .int y :: .int x :: r => some (pc + 1, .int (x <<< (y &&& 31)) :: r) | _ => none
  | .ishr => match st with | .int y :: .int x :: r => some (pc + 1, .int (x >>> (y &&& 31)) :: r) | _ => none
  | .iushr => match st with | .int y :: .int x :: r => some (pc + 1, .int (XT.ushr x y) :: r) | _ => none
  | .idiv => match st with | .int y :: .int x :: r => if y = 0 then none else some (pc + 1, .int (x / y) :: r) | _ => none
  | .irem => match st with | .int y :: .int x :: r => if y = 0 then none else some (pc + 1, .int (x % y) :: r) | _ => none
  | .ineg => match st with | .int x :: r => some (pc + 1, .int (-x) :: r) | _ => none
  | .ladd => match st with | .long y :: .long x :: r => some (pc + 1, .long (x + y) :: r) | _ => none
  | .lsub => match st with | .long y :: .long x :: r => some (pc + 1, .long (x - y) :: r) | _ => none
  | .lmul => match st with | .long y :: .long x :: r => some (pc + 1, .long (x * y) :: r) | _ => none
  | .land => match st with | .long y :: .long x :: r => some (pc + 1, .long (x &&& y) :: r) | _ => none
  | .lor => match st with | .long y :: .long x :: r => some (pc + 1, .long (x ||| y) :: r) | _ => none
  | .lxor => match st with | .long y :: .long x :: r => some (pc + 1, .long (x ^^^ y) :: r) | _ => none
  | .lshl => match st with | .int y :: .long x :: r => some (pc + 1, .long (x <<< (y.toInt64 &&& 63)) :: r) | _ => none
  | .lshr => match st with | .int y :: .long x :: r => some (pc + 1, .long (x >>> (y.toInt64 &&& 63)) :: r) | _ => none
  | .lushr => match st with | .int y :: .long x :: r => some (pc + 1, .long (XT.ushrL x y) :: r) | _ => none
  | .ldiv => match st with | .long y :: .long x :: r => if y = 0 then none else some (pc + 1, .long (x / y) :: r) | _ => none
  | .lneg => match st with | .long x :: r => some (pc + 1, .long (-x) :: r) | _ => none
  | .lcmp => match st with | .long y :: .long x :: r => some (pc + 1, .int (XT.cmpL x y) :: r) | _ => none
  | .i2l => match st with | .int x :: r => some (pc + 1, .long x.toInt64 :: r) | _ => none
  | .l2i => match st with | .long x :: r => some (pc + 1, .int x.toInt32 :: r) | _ => none
  | .dup => match st with | .int x :: r => some (pc + 1, .int x :: .int x :: r) | .ref x :: r => some (pc + 1, .ref x :: .ref x :: r) | _ => none
  | .pop => match st with | .int _ :: r => some (pc + 1, r) | .ref _ :: r => some (pc + 1, r) | _ => none
  | .goto o => if 0 ≤ (pc : Int) + o then some (jmp pc o, st) else none
  | .ifCond cd o => match st with | .int x :: r => if 0 ≤ (pc : Int) + o then some (br cd x 0 (jmp pc o) (pc + 3), r) else none | _ => none
  | .if_icmp cd o => match st with | .int y :: .int x :: r => if 0 ≤ (pc : Int) + o then some (br cd x y (jmp pc o) (pc + 3), r) else none | _ => none
  | .tableswitch d lo hi offs => match st with
    | .int x :: r => if x.toInt < lo ∨ x.toInt > hi then (if 0 ≤ (pc : Int) + d then some (jmp pc d, r) else none)
      else (match offs[(x.toInt - lo).toNat]? with | some o => if 0 ≤ (pc : Int) + o then some (jmp pc o, r) else none | none => none)
    | _ => none
  | _ => none
def pstep (i : Instr) (pc : Nat) (ls : Lv) (st : List Value) : Option (Nat × Lv × List Value) :=
  match i with
  | .iload_n k => match ls[k.val]? with | some (some (.int v)) => some (pc + 1, ls, .int v :: st) | _ => none
  | .iload k => match ls[k]? with | some (some (.int v)) => some (pc + 2, ls, .int v :: st) | _ => none
  | .lload_n k => match ls[k.val]? with | some (some (.long v)) => some (pc + 1, ls, .long v :: st) | _ => none
  | .lload k => match ls[k]? with | some (some (.long v)) => some (pc + 2, ls, .long v :: st) | _ => none
  | .aload_n k => match ls[k.val]? with | some (some (.ref v)) => some (pc + 1, ls, .ref v :: st) | _ => none
  | .aload k => match ls[k]? with | some (some (.ref v)) => some (pc + 2, ls, .ref v :: st) | _ => none
  | .istore_n k => match st with | .int v :: r => (match stl ls k.val (.int v) with | some l => some (pc + 1, l, r) | none => none) | _ => none
  | .istore k => match st with | .int v :: r => (match stl ls k (.int v) with | some l => some (pc + 2, l, r) | none => none) | _ => none
  | .lstore_n k => match st with | .long v :: r => (match stl ls k.val (.long v) with | some l => some (pc + 1, l, r) | none => none) | _ => none
  | .lstore k => match st with | .long v :: r => (match stl ls k (.long v) with | some l => some (pc + 2, l, r) | none => none) | _ => none
  | .astore_n k => match st with | .ref v :: r => (match stl ls k.val (.ref v) with | some l => some (pc + 1, l, r) | none => none) | _ => none
  | .astore k => match st with | .ref v :: r => (match stl ls k (.ref v) with | some l => some (pc + 2, l, r) | none => none) | _ => none
  | .iinc k d => match ls[k]? with | some (some (.int v)) => (match stl ls k (.int (v + Int32.ofInt d)) with | some l => some (pc + 3, l, st) | none => none) | _ => none
  | i => match qstep i pc st with | some (pc', st') => some (pc', ls, st') | none => none
/-- how the machine's references stand in the heap -/
def va (ρ : Nat → Nat) : Value → Value
  | .ref c => .ref (ρ c)
  | v => v
def WF (L : Array Slot) : Prop :=
  (∀ (k : Nat) (v : Value), L[k]? = some (Slot.val v) → v.category = 2 → L[k + 1]? = some .second) ∧
  (∀ k : Nat, L[k + 1]? = some Slot.second → ∃ v : Value, L[k]? = some (Slot.val v) ∧ v.category = 2) ∧ L[0]? ≠ some Slot.second
def LR (ρ : Nat → Nat) (ls : Lv) (L : Array Slot) : Prop :=
  L.size = ls.length ∧ (∀ (k : Nat) (v : Value), ls[k]? = some (some v) → L[k]? = some (Slot.val (va ρ v))) ∧ WF L
end Jvm.LM

namespace Jvm.LM
open Sem ClassFile Op Lib Jvm.Stand Jvm.Free Jvm.LawKit Jvm.RoadKit
/-! the local variables -/
def upd (f : Nat → Option Slot) (i : Nat) (x : Slot) : Nat → Option Slot := fun k => if k = i then some x else f k
def WFf (f : Nat → Option Slot) : Prop :=
  (∀ k v, f k = some (.val v) → v.category = 2 → f (k + 1) = some .second) ∧
  (∀ k, f (k + 1) = some .second → ∃ v, f k = some (.val v) ∧ v.category = 2) ∧ f 0 ≠ some .second
def clearF (f : Nat → Option Slot) (i : Nat) : Nat → Option Slot :=
  match f i with
  | some .second => upd (upd f (i - 1) .unset) i .unset
  | some (.val old) => if old.category = 2 then upd (upd f (i + 1) .unset) i .unset else upd f i .unset
  | _ => f
theorem clearF_cases (f : Nat → Option Slot) (i : Nat) : (f i = some .second ∧ clearF f i = upd (upd f (i - 1) .unset) i .unset) ∨ (∃ old, f i = some (.val old) ∧ old.category = 2 ∧ clearF f i = upd (upd f (i + 1) .unset) i .unset) ∨
    (∃ old, f i = some (.val old) ∧ old.category ≠ 2 ∧ clearF f i = upd f i .unset) ∨ ((f i = some .unset ∨ f i = none) ∧ clearF f i = f) := by
  cases h : f i with
  | none => exact Or.inr (Or.inr (Or.inr ⟨Or.inr rfl, by simp only [clearF, h]⟩))
  | some x =>
    cases x with
    | unset => exact Or.inr (Or.inr (Or.inr ⟨Or.inl rfl, by simp only [clearF, h]⟩))
    | second => exact Or.inl ⟨rfl, by simp only [clearF, h]⟩
    | val old =>
      by_cases hc : old.category = 2
      · exact Or.inr (Or.inl ⟨old, rfl, hc, by simp only [clearF, h]; rw [if_pos hc]⟩)
      · exact Or.inr (Or.inr (Or.inl ⟨old, rfl, hc, by simp only [clearF, h]; rw [if_neg hc]⟩))
theorem wff_clear {f : Nat → Option Slot} (h : WFf f) (i : Nat) : WFf (clearF f i) := by
  obtain ⟨h1, h2, h3⟩ := h
  unfold clearF
  split
  · rename_i e
    cases i with
    | zero => exact absurd e h3
    | succ j =>
      refine ⟨fun k v hk hc => ?_, fun k hk => ?_, ?_⟩
      · simp only [upd, Nat.add_sub_cancel] at hk ⊢
        have := h1 k v
        by_cases a : k = j + 1
        · simp [a] at hk
        · by_cases b : k = j
          · simp [b] at hk
          · have c : k + 1 ≠ j + 1 := by omega
            simp only [a, b, if_false] at hk
            by_cases d : k + 1 = j
            · have := h1 k v hk hc
              obtain ⟨w, hw, hw2⟩ := h2 j e
              rw [d, hw] at this; cases this
            · simp [c, d, b, h1 k v hk hc]
      · simp only [upd, Nat.add_sub_cancel] at hk ⊢
        by_cases a : k = j
        · simp [a] at hk
        · by_cases b : k + 1 = j
          · simp [b] at hk
          · simp only [show ¬ (k + 1 = j + 1) by omega, b, if_false] at hk
            obtain ⟨w, hw, hw2⟩ := h2 k hk
            by_cases d : k = j + 1
            · rw [d, e] at hw; cases hw
            · exact ⟨w, by simp [d, a, hw], hw2⟩
      · simp only [upd, Nat.add_sub_cancel]
        by_cases b : 0 = j
        · simp [← b]
        · simp [b, h3]
  · rename_i old e
    split
    · rename_i hc2
      have e2 := h1 i old e hc2
      refine ⟨fun k v hk hc => ?_, fun k hk => ?_, ?_⟩
      · simp only [upd] at hk ⊢
        by_cases a : k = i
        · simp [a] at hk
        · by_cases b : k = i + 1
          · simp [b] at hk
          · simp only [a, b, if_false] at hk
            have q := h1 k v hk hc
            by_cases d : k + 1 = i
            · rw [d, e] at q; cases q
            · simp [d, a, show ¬ (k + 1 = i + 1) by omega, q]
      · simp only [upd] at hk ⊢
        by_cases a : k + 1 = i
        · simp [a] at hk
        · by_cases b : k = i
          · simp [b] at hk
          · simp only [a, show ¬ (k + 1 = i + 1) by omega, if_false] at hk
            obtain ⟨w, hw, hw2⟩ := h2 k hk
            by_cases d : k = i + 1
            · rw [d, e2] at hw; cases hw
            · exact ⟨w, by simp [d, b, hw], hw2⟩
      · simp only [upd]
        by_cases b : 0 = i
        · simp [← b]
        · simp [b, h3]
    · rename_i hc2
      refine ⟨fun k v hk hc => ?_, fun k hk => ?_, ?_⟩
      · simp only [upd] at hk ⊢
        by_cases a : k = i
        · simp [a] at hk
        · simp only [a, if_false] at hk
          have q := h1 k v hk hc
          by_cases d : k + 1 = i
          · rw [d, e] at q; cases q
          · simp [d, q]
      · simp only [upd] at hk ⊢
        by_cases a : k + 1 = i
        · simp [a] at hk
        · simp only [a, if_false] at hk
          obtain ⟨w, hw, hw2⟩ := h2 k hk
          by_cases d : k = i
          · rw [d, e] at hw; cases hw; exact absurd hw2 hc2
          · exact ⟨w, by simp [d, hw], hw2⟩
      · simp only [upd]
        by_cases b : 0 = i
        · simp [← b]
        · simp [b, h3]
  · exact ⟨h1, h2, h3⟩
theorem wff_one {f : Nat → Option Slot} (h : WFf f) {i : Nat} (e : f i = some .unset) {v : Value} (hv : v.category ≠ 2) : WFf (upd f i (.val v)) := by
  obtain ⟨h1, h2, h3⟩ := h
  refine ⟨fun k w hk hc => ?_, fun k hk => ?_, ?_⟩
  · simp only [upd] at hk ⊢
    by_cases a : k = i
    · simp only [a, if_true, Option.some.injEq, Slot.val.injEq] at hk; subst hk; exact absurd hc hv
    · simp only [a, if_false] at hk
      have q := h1 k w hk hc
      by_cases d : k + 1 = i
      · rw [d, e] at q; cases q
      · simp [d, q]
  · simp only [upd] at hk ⊢
    by_cases a : k + 1 = i
    · simp [a] at hk
    · simp only [a, if_false] at hk
      obtain ⟨w, hw, hw2⟩ := h2 k hk
      by_cases d : k = i
      · rw [d, e] at hw; cases hw
      · exact ⟨w, by simp [d, hw], hw2⟩
  · simp only [upd]
    by_cases b : 0 = i
    · simp [← b]
    · simp [b, h3]
theorem wff_two {f : Nat → Option Slot} (h : WFf f) {i : Nat} (e : f i = some .unset) (e' : f (i + 1) = some .unset) {v : Value} (hv : v.category = 2) : WFf (upd (upd f i (.val v)) (i + 1) .second) := by
  obtain ⟨h1, h2, h3⟩ := h
  refine ⟨fun k w hk hc => ?_, fun k hk => ?_, ?_⟩
  · simp only [upd] at hk ⊢
    by_cases a : k = i + 1
    · simp [a] at hk
    · by_cases b : k = i
      · simp [b]
      · simp only [a, b, if_false] at hk
        have q := h1 k w hk hc
        by_cases d : k + 1 = i
        · rw [d, e] at q; cases q
        · simp [d, show ¬ (k + 1 = i + 1) by omega, q]
  · simp only [upd] at hk ⊢
    by_cases a : k = i
    · exact ⟨v, by simp [a], hv⟩
    · by_cases b : k + 1 = i
      · simp [b] at hk
      · simp only [show ¬ (k + 1 = i + 1) by omega, b, if_false] at hk
        obtain ⟨w, hw, hw2⟩ := h2 k hk
        by_cases d : k = i + 1
        · rw [d, e'] at hw; cases hw
        · exact ⟨w, by simp [d, a, hw], hw2⟩
  · simp only [upd]
    by_cases b : 0 = i
    · simp [← b]
    · simp [b, h3]
theorem gset (L : Array Slot) {i : Nat} (hi : i < L.size) (x : Slot) : (fun k => (L.setIfInBounds i x)[k]?) = upd (fun k => L[k]?) i x := by
  funext k
  simp only [upd, Array.getElem?_setIfInBounds]
  by_cases a : i = k
  · subst a; simp [hi]
  · simp [a, show ¬ k = i from fun h => a h.symm]
theorem sl_eq (L : Array Slot) (i : Nat) (v : Value) : storeLocals L i v = (L[i]?).bind (fun x => match x with
    | .second => (setAt L (i - 1) .unset).bind (fun l => storeSelf l i v)
    | .val old => if old.category = 2 then (setAt L (i + 1) .unset).bind (fun l => storeSelf l i v) else storeSelf L i v
    | .unset => storeSelf L i v) := rfl
theorem ss_eq (L : Array Slot) (i : Nat) (v : Value) : storeSelf L i v = (setAt L i (.val v)).bind (fun l => if v.category = 2 then (l[i + 1]?).bind (fun x => match x with
    | .val old => if old.category = 2 then (setAt l (i + 2) .unset).bind (fun l' => setAt l' (i + 1) .second) else setAt l (i + 1) .second
    | _ => setAt l (i + 1) .second) else some l) := rfl
theorem sa_eq {L : Array Slot} {i : Nat} (hi : i < L.size) (x : Slot) : setAt L i x = some (L.setIfInBounds i x) := if_pos hi
theorem upd_upd (f : Nat → Option Slot) (i : Nat) (x y : Slot) : upd (upd f i x) i y = upd f i y := by
  funext k; simp only [upd]; split <;> rfl
/-- what a store clears first -/
theorem clear_ok {L : Array Slot} (hW : WF L) {i : Nat} (hi : i < L.size) (v : Value) : ∃ L1, storeLocals L i v = storeSelf L1 i v ∧ L1.size = L.size ∧ upd (fun k => L1[k]?) i .unset = upd (clearF (fun k => L[k]?) i) i .unset := by
  have hh : WFf (fun k => L[k]?) := hW
  obtain ⟨sl, hsl⟩ : ∃ sl, L[i]? = some sl := ⟨L[i], Array.getElem?_eq_getElem hi⟩
  rw [sl_eq, hsl, Option.bind_some]
  cases sl with
  | unset => exact ⟨L, rfl, rfl, by simp only [clearF, hsl]⟩
  | second =>
    refine ⟨L.setIfInBounds (i - 1) .unset, ?_, by simp, ?_⟩
    · show (setAt L (i - 1) .unset).bind _ = _
      rw [sa_eq (by omega)]; rfl
    · rw [gset _ (by omega)]; simp only [clearF, hsl, upd_upd]
  | val old =>
    by_cases hc : old.category = 2
    · have h2 := hh.1 i old hsl hc
      have hlt : i + 1 < L.size := (Array.getElem?_eq_some_iff.mp h2).1
      refine ⟨L.setIfInBounds (i + 1) .unset, ?_, by simp, ?_⟩
      · show (if old.category = 2 then _ else _) = _
        rw [if_pos hc, sa_eq hlt]; rfl
      · rw [gset _ hlt]; simp only [clearF, hsl, hc, if_true, upd_upd]
    · refine ⟨L, ?_, rfl, ?_⟩
      · show (if old.category = 2 then _ else _) = _
        rw [if_neg hc]
      · simp only [clearF, hsl, hc, if_false, upd_upd]
theorem clearF_at {f : Nat → Option Slot} {i : Nat} (hi : f i ≠ none) : clearF f i i = some .unset := by
  rcases clearF_cases f i with ⟨h1, h2⟩ | ⟨old, h1, h3, h2⟩ | ⟨old, h1, h3, h2⟩ | ⟨h1 | h1, h2⟩
  · rw [h2]; simp [upd]
  · rw [h2]; simp [upd]
  · rw [h2]; simp [upd]
  · rw [h2]; exact h1
  · exact absurd h1 hi
theorem clearF_self {f : Nat → Option Slot} {i : Nat} (hi : f i ≠ none) : upd (clearF f i) i .unset = clearF f i := by
  funext k; simp only [upd]; split
  · rename_i e; rw [e]; exact (clearF_at hi).symm
  · rfl
/-- the other variables: kept, or they held (a part of) a long -/
theorem clearF_keep {f : Nat → Option Slot} (h : WFf f) {i k : Nat} {w : Value} (hk : k ≠ i) (e : f k = some (.val w)) (hw : k + 1 = i → w.category ≠ 2) : clearF f i k = some (.val w) := by
  rcases clearF_cases f i with ⟨e2, h2⟩ | ⟨old, e2, hc, h2⟩ | ⟨old, e2, hc, h2⟩ | ⟨-, h2⟩
  · rw [h2]
    cases i with
    | zero => exact absurd e2 h.2.2
    | succ j =>
      simp only [upd, Nat.add_sub_cancel, hk, if_false]
      split
      · rename_i hj; subst hj
        obtain ⟨v, hv, hv2⟩ := h.2.1 k e2
        rw [e] at hv; cases hv; exact absurd hv2 (hw rfl)
      · exact e
  · rw [h2]
    have q := h.1 i old e2 hc
    simp only [upd, hk, if_false]
    split
    · rename_i hj; rw [hj, q] at e; cases e
    · exact e
  · rw [h2]; simp [upd, hk, e]
  · rw [h2]; exact e
theorem store_one {L : Array Slot} (hW : WF L) {i : Nat} (hi : i < L.size) {v : Value} (hv : v.category ≠ 2) :
    ∃ L', storeLocals L i v = some L' ∧ L'.size = L.size ∧ WF L' ∧ (fun k => L'[k]?) = upd (clearF (fun k => L[k]?) i) i (.val v) := by
  obtain ⟨L1, h1, h2, h3⟩ := clear_ok hW hi v
  have hne : (fun k => L[k]?) i ≠ none := by simp; omega
  have hi1 : i < L1.size := by omega
  refine ⟨L1.setIfInBounds i (.val v), ?_, by simp [h2], ?_, ?_⟩
  · rw [h1, ss_eq, sa_eq hi1, Option.bind_some, if_neg hv]
  · have q : (fun k => (L1.setIfInBounds i (.val v))[k]?) = upd (clearF (fun k => L[k]?) i) i (.val v) := by
      rw [gset _ hi1, ← upd_upd _ i .unset, h3, upd_upd]
    have w : WFf (fun k => (L1.setIfInBounds i (.val v))[k]?) := by
      rw [q]; exact wff_one (wff_clear hW i) (clearF_at hne) hv
    exact w
  · rw [gset _ hi1, ← upd_upd _ i .unset, h3, upd_upd]
theorem store_two {L : Array Slot} (hW : WF L) {i : Nat} (hi : i + 1 < L.size) {v : Value} (hv : v.category = 2) :
    ∃ L', storeLocals L i v = some L' ∧ L'.size = L.size ∧ WF L' ∧ (fun k => L'[k]?) = upd (upd (clearF (clearF (fun k => L[k]?) i) (i + 1)) i (.val v)) (i + 1) .second := by
  obtain ⟨L1, h1, h2, h3⟩ := clear_ok hW (show i < L.size by omega) v
  have hne : (fun k => L[k]?) i ≠ none := by simp; omega
  have hi1 : i < L1.size := by omega
  have hi2 : i + 1 < L1.size := by omega
  rw [clearF_self hne] at h3
  have hWc := wff_clear (f := fun k => L[k]?) hW i
  generalize hF : clearF (fun k => L[k]?) i = F at *
  have hFi : F i = some .unset := by rw [← hF]; exact clearF_at hne
  have g1 : (fun k => (L1.setIfInBounds i (.val v))[k]?) = upd F i (.val v) := by rw [gset _ hi1, ← upd_upd _ i .unset, h3]
  have g2 : (L1.setIfInBounds i (.val v))[i + 1]? = F (i + 1) := by
    have := congrFun g1 (i + 1); simpa [upd] using this
  have hFi1 : F (i + 1) ≠ none := by
    have : (L1.setIfInBounds i (.val v))[i + 1]? ≠ none := by simp; omega
    rw [g2] at this; exact this
  have hns : F (i + 1) ≠ some .second := fun q => by
    obtain ⟨w, hw, -⟩ := hWc.2.1 i q
    rw [hFi] at hw; cases hw
  have key : ∀ G : Nat → Option Slot, WFf G → G i = some .unset → G (i + 1) = some .unset → G = clearF F (i + 1) → WFf (upd (upd (clearF F (i + 1)) i (.val v)) (i + 1) .second) := fun G hG a b e => by rw [← e]; exact wff_two hG a b hv
  have hcl := wff_clear hWc (i + 1)
  have hcli : clearF F (i + 1) i = some .unset := by
    rcases clearF_cases F (i + 1) with ⟨q, h2⟩ | ⟨old, q, hc, h2⟩ | ⟨old, q, hc, h2⟩ | ⟨-, h2⟩
    · exact absurd q hns
    · rw [h2]; simp [upd, hFi]
    · rw [h2]; simp [upd, hFi]
    · rw [h2]; exact hFi
  have hWF := wff_two hcl hcli (clearF_at hFi1) hv
  rw [h1, ss_eq, sa_eq hi1, Option.bind_some, if_pos hv, g2]
  cases hx : F (i + 1) with
  | none => exact absurd hx hFi1
  | some sl =>
    cases sl with
    | second => exact absurd hx hns
    | unset =>
      have e1 : clearF F (i + 1) = F := by simp only [clearF, hx]
      have e3 : (fun k => ((L1.setIfInBounds i (.val v)).setIfInBounds (i + 1) .second)[k]?) = upd (upd (clearF F (i + 1)) i (.val v)) (i + 1) .second := by
        rw [gset _ (by simpa using hi2), g1, e1]
      refine ⟨(L1.setIfInBounds i (.val v)).setIfInBounds (i + 1) .second, ?_, by simp [h2], ?_, e3⟩
      · show setAt _ (i + 1) .second = _
        rw [sa_eq (by simpa using hi2)]
      · have w : WFf (fun k => ((L1.setIfInBounds i (.val v)).setIfInBounds (i + 1) .second)[k]?) := by rw [e3]; exact hWF
        exact w
    | val old =>
      by_cases hc : old.category = 2
      · have q := hWc.1 _ _ hx hc
        have hi3 : i + 2 < L1.size := by
          have q2 : (L1.setIfInBounds i (.val v))[i + 2]? = some .second := by
            have := congrFun g1 (i + 2); simpa [upd, q] using this
          have := (Array.getElem?_eq_some_iff.mp q2).1
          simpa using this
        have e1 : clearF F (i + 1) = upd (upd F (i + 2) .unset) (i + 1) .unset := by simp only [clearF, hx, hc, if_true]
        have e3 : (fun k => (((L1.setIfInBounds i (.val v)).setIfInBounds (i + 2) .unset).setIfInBounds (i + 1) .second)[k]?) = upd (upd (clearF F (i + 1)) i (.val v)) (i + 1) .second := by
          rw [gset _ (by simpa using hi2), gset _ (by simpa using hi3), g1, e1]
          funext k; simp only [upd]
          by_cases a : k = i + 1
          · simp [a]
          · by_cases b : k = i
            · simp [b]
            · simp [a, b]
        refine ⟨((L1.setIfInBounds i (.val v)).setIfInBounds (i + 2) .unset).setIfInBounds (i + 1) .second, ?_, by simp [h2], ?_, e3⟩
        · show (if old.category = 2 then _ else _) = _
          rw [if_pos hc, sa_eq (by simpa using hi3), Option.bind_some, sa_eq (by simpa using hi2)]
        · have w : WFf (fun k => (((L1.setIfInBounds i (.val v)).setIfInBounds (i + 2) .unset).setIfInBounds (i + 1) .second)[k]?) := by rw [e3]; exact hWF
          exact w
      · have e1 : clearF F (i + 1) = upd F (i + 1) .unset := by simp only [clearF, hx, hc, if_false]
        have e3 : (fun k => ((L1.setIfInBounds i (.val v)).setIfInBounds (i + 1) .second)[k]?) = upd (upd (clearF F (i + 1)) i (.val v)) (i + 1) .second := by
          rw [gset _ (by simpa using hi2), g1, e1]
          funext k; simp only [upd]
          by_cases a : k = i + 1
          · simp [a]
          · by_cases b : k = i
            · simp [b]
            · simp [a, b]
        refine ⟨(L1.setIfInBounds i (.val v)).setIfInBounds (i + 1) .second, ?_, by simp [h2], ?_, e3⟩
        · show (if old.category = 2 then _ else _) = _
          rw [if_neg hc, sa_eq (by simpa using hi2)]
        · have w : WFf (fun k => ((L1.setIfInBounds i (.val v)).setIfInBounds (i + 1) .second)[k]?) := by rw [e3]; exact hWF
          exact w
theorem cat_va (ρ : Nat → Nat) (v : Value) : (va ρ v).category = v.category := by cases v <;> rfl
theorem clr_len (ls : Lv) (i : Nat) : (clr ls i).length = ls.length := by
  cases i with
  | zero => rfl
  | succ j => simp only [clr]; split <;> simp
theorem clr_get {ls : Lv} {i k : Nat} {v : Value} (h : (clr ls i)[k]? = some (some v)) : ls[k]? = some (some v) ∧ (k + 1 = i → v.category ≠ 2) := by
  cases i with
  | zero => exact ⟨h, fun q => by omega⟩
  | succ j =>
    simp only [clr] at h
    split at h
    · rename_i x e
      rw [List.getElem?_set] at h
      split at h
      · rename_i hj; subst hj; split at h <;> simp at h
      · rename_i hj; exact ⟨h, fun q => by omega⟩
    · rename_i x e
      rw [List.getElem?_set] at h
      split at h
      · rename_i hj; subst hj; split at h <;> simp at h
      · rename_i hj; exact ⟨h, fun q => by omega⟩
    · rename_i e1 e2
      refine ⟨h, fun q hc => ?_⟩
      have hk : k = j := by omega
      subst hk
      cases v <;> first | exact e1 _ h | exact e2 _ h | (exact Nat.noConfusion (Nat.succ.inj hc))
theorem store_ok {ρ : Nat → Nat} {ls ls' : Lv} {L : Array Slot} {i : Nat} {v : Value} (hL : LR ρ ls L) (hd : ∀ x, v ≠ .double x) (h : stl ls i v = some ls') : ∃ L', storeLocals L i (va ρ v) = some L' ∧ LR ρ ls' L' ∧ L'.size = L.size := by
  obtain ⟨hz, hr, hW⟩ := hL
  have hWf : WFf (fun k => L[k]?) := hW
  by_cases hc : v.category = 2
  · obtain ⟨x, rfl⟩ : ∃ x, v = .long x := by cases v <;> simp [Value.category] at hc <;> first | exact ⟨_, rfl⟩ | exact absurd rfl (hd _)
    simp only [stl] at h
    split at h
    · rename_i hi
      cases h
      obtain ⟨L', a1, a2, a3, a4⟩ := store_two hW (show i + 1 < L.size by omega) (v := va ρ (.long x)) rfl
      refine ⟨L', a1, ⟨by simp [a2, hz, clr_len], fun k w hk => ?_, a3⟩, a2⟩
      have q : L'[k]? = _ := congrFun a4 k
      rw [q]
      rw [List.getElem?_set] at hk
      split at hk
      · simp at hk
      · rename_i hk1
        rw [List.getElem?_set] at hk
        split at hk
        · rename_i hk2; subst hk2
          simp only [clr_len] at hk
          split at hk
          · cases hk; simp [upd]
          · simp at hk
        · rename_i hk2
          obtain ⟨b1, b2⟩ := clr_get hk
          have b3 := hr _ _ b1
          have b4 : clearF (fun k => L[k]?) i k = some (.val (va ρ w)) := clearF_keep hWf (fun q => hk2 q.symm) b3 (fun q => by rw [cat_va]; exact b2 q)
          have b5 := clearF_keep (wff_clear hWf i) (i := i + 1) (fun q => hk1 q.symm) b4 (fun q => absurd (Nat.succ.inj q) fun z => hk2 z.symm)
          simp only [upd, show ¬ k = i + 1 from fun q => hk1 q.symm, show ¬ k = i from fun q => hk2 q.symm, if_false]
          exact b5
    · cases h
  · have hs : stl ls i v = if i < ls.length then some ((clr ls i).set i (some v)) else none := by cases v <;> first | rfl | exact absurd rfl hc
    rw [hs] at h
    split at h
    · rename_i hi
      cases h
      obtain ⟨L', a1, a2, a3, a4⟩ := store_one hW (show i < L.size by omega) (v := va ρ v) (by rw [cat_va]; exact hc)
      refine ⟨L', a1, ⟨by simp [a2, hz, clr_len], fun k w hk => ?_, a3⟩, a2⟩
      have q : L'[k]? = _ := congrFun a4 k
      rw [q]
      rw [List.getElem?_set] at hk
      split at hk
      · rename_i hk2; subst hk2
        simp only [clr_len] at hk
        split at hk
        · cases hk; simp [upd]
        · omega
      · rename_i hk2
        obtain ⟨b1, b2⟩ := clr_get hk
        have b3 := hr _ _ b1
        have b4 : clearF (fun k => L[k]?) i k = some (.val (va ρ w)) := clearF_keep hWf (fun q => hk2 q.symm) b3 (fun q => by rw [cat_va]; exact b2 q)
        simp only [upd, show ¬ k = i from fun q => hk2 q.symm, if_false]
        exact b4
    · cases h
end Jvm.LM

namespace Jvm.LM
open Sem ClassFile Op Lib Jvm.Stand Jvm.Free Jvm.LawKit Jvm.RoadKit
section Pure
variable {p : Program} {l : Launch} {e : Env} {R : Room} {s : State} {m : MethodId} {args : Array Value} {below : List Frame} {meth : Method} {c : Code} {T : State} {locs : List Loc} {cells slots : Nat}
theorem br_eq (cd : ClassFile.Cond) (x y : Int32) (a b : Nat) : br cd x y a b = if if_icmp.holds cd x y = true then a else b := by
  cases cd <;> simp only [br]
  · by_cases h : x = y <;> simp [h, XT.ii_eq_t, XT.ii_eq_f]
  · by_cases h : x = y
    · rw [if_pos h, XT.ii_ne_f h]; rfl
    · rw [if_neg h, XT.ii_ne_t h]; rfl
  · by_cases h : x < y
    · rw [if_pos h, XT.ii_lt_t h]; rfl
    · rw [if_neg h, XT.ii_lt_f h]; rfl
  · by_cases h : x < y
    · rw [if_pos h, XT.ii_ge_f h]; rfl
    · rw [if_neg h, XT.ii_ge_t h]; rfl
  · by_cases h : y < x
    · rw [if_pos h, XT.ii_gt_t h]; rfl
    · rw [if_neg h, XT.ii_gt_f h]; rfl
  · by_cases h : y < x
    · rw [if_pos h, XT.ii_le_f h]; rfl
    · rw [if_neg h, XT.ii_le_t h]; rfl
theorem qstep_sound (X : Stand p l e R s m args below meth c T locs cells slots) (hx : p.tables.exec = Jvm.exec) {ρ : Nat → Nat} {i : Instr} {n pc pc' : Nat} {st st' : List Value}
    (h : qstep i pc st = some (pc', st')) (hd : decode c.code pc = .ok (i, n)) (hn : isSw i = true ∨ n = ilen i) {L : Array Slot} :
    ∀ target, Steps p.tables e below (T.setTop (mkF m pc' L (st'.map (va ρ)))) target → Steps p.tables e below (T.setTop (mkF m pc L (st.map (va ρ)))) target := by
  by_cases hsw : isSw i = true
  · cases i <;> first | exact absurd hsw Bool.false_ne_true | skip
    rename_i d lo hi offs
    simp only [qstep] at h
    split at h
    · rename_i x r
      split at h
      · rename_i e1
        split at h
        · rename_i e2; cases h; exact fun t q => X.tableswitchOut hx (g := mkF m pc L (.int x :: List.map (va ρ) _)) rfl rfl hd e1 e2 t q
        · cases h
      · rename_i e1
        split at h
        · rename_i o e2
          split at h
          · rename_i e3; cases h; exact fun t q => X.tableswitchIn hx (g := mkF m pc L (.int x :: List.map (va ρ) _)) rfl rfl hd e1 e2 e3 t q
          · cases h
        · cases h
    · cases h
  obtain rfl := hn.resolve_left hsw
  unfold qstep at h
  split at h
  -- constants
  · cases h; exact fun t q => XS.iconst X.here hx rfl hd q
  · cases h; exact fun t q => XS.bipush X.here hx rfl hd q
  · cases h; exact fun t q => XS.sipush X.here hx rfl hd q
  · cases h; exact fun t q => XT.lconst X.here hx rfl hd q
  -- ints
  · split at h
    · cases h; exact fun t q => XS.iadd X.here hx rfl hd rfl q
    · cases h
  · split at h
    · cases h; exact fun t q => XS.isub X.here hx rfl hd rfl q
    · cases h
  · split at h
    · cases h; exact fun t q => XS.imul X.here hx rfl hd rfl q
    · cases h
  · split at h
    · cases h; exact fun t q => XS.iand X.here hx rfl hd rfl q
    · cases h
  · split at h
    · cases h; exact fun t q => XT.ior X.here hx rfl hd rfl q
    · cases h
  · split at h
    · cases h; exact fun t q => XT.ixor X.here hx rfl hd rfl q
    · cases h
  · split at h
    · cases h; exact fun t q => XT.ishl X.here hx rfl hd rfl q
    · cases h
  · split at h
    · cases h; exact fun t q => XT.ishr X.here hx rfl hd rfl q
    · cases h
  · split at h
    · cases h; exact fun t q => XT.iushr X.here hx rfl hd rfl q
    · cases h
  · split at h
    · split at h
      · cases h
      · rename_i e1; cases h; exact fun t q => XS.idiv X.here hx rfl hd rfl e1 q
    · cases h
  · split at h
    · split at h
      · cases h
      · rename_i e1; cases h; exact fun t q => iremM X hx rfl hd rfl e1 q
    · cases h
  · split at h
    · cases h; exact fun t q => XS.ineg X.here hx rfl hd rfl q
    · cases h
  -- longs
  · split at h
    · cases h; exact fun t q => XT.ladd X.here hx rfl hd rfl q
    · cases h
  · split at h
    · cases h; exact fun t q => XT.lsub X.here hx rfl hd rfl q
    · cases h
  · split at h
    · cases h; exact fun t q => XT.lmul X.here hx rfl hd rfl q
    · cases h
  · split at h
    · cases h; exact fun t q => XT.land X.here hx rfl hd rfl q
    · cases h
  · split at h
    · cases h; exact fun t q => XT.lor X.here hx rfl hd rfl q
    · cases h
  · split at h
    · cases h; exact fun t q => XT.lxor X.here hx rfl hd rfl q
    · cases h
  · split at h
    · cases h; exact fun t q => XT.lshl X.here hx rfl hd rfl q
    · cases h
  · split at h
    · cases h; exact fun t q => XT.lshr X.here hx rfl hd rfl q
    · cases h
  · split at h
    · cases h; exact fun t q => XT.lushr X.here hx rfl hd rfl q
    · cases h
  · split at h
    · split at h
      · cases h
      · rename_i e1; cases h; exact fun t q => XT.ldiv X.here hx rfl hd rfl e1 q
    · cases h
  · split at h
    · cases h; exact fun t q => XT.lneg X.here hx rfl hd rfl q
    · cases h
  · split at h
    · cases h; exact fun t q => XT.lcmp X.here hx rfl hd rfl q
    · cases h
  · split at h
    · cases h; exact fun t q => XT.i2l X.here hx rfl hd rfl q
    · cases h
  · split at h
    · cases h; exact fun t q => XT.l2i X.here hx rfl hd rfl q
    · cases h
  -- dup, pop
  · split at h
    · cases h; exact fun t q => XS.dup X.here hx rfl hd rfl rfl q
    · cases h; exact fun t q => XS.dup X.here hx rfl hd rfl rfl q
    · cases h
  · split at h
    · cases h; exact fun t q => XT.pop X.here hx rfl hd rfl rfl q
    · cases h; exact fun t q => XT.pop X.here hx rfl hd rfl rfl q
    · cases h
  -- jumps
  · split at h
    · rename_i e1; cases h; exact fun t q => XS.goto X.here hx rfl rfl hd e1 rfl q
    · cases h
  · split at h
    · split at h
      · rename_i e1; cases h
        intro t q
        rw [br_eq] at q
        split at q
        · rename_i e2; exact XS.ifYes X.here hx rfl rfl hd rfl (by rw [if0]; exact e2) e1 rfl q
        · rename_i e2; exact XS.ifNo X.here hx rfl hd rfl (by rw [if0]; simpa using e2) q
      · cases h
    · cases h
  · split at h
    · split at h
      · rename_i e1; cases h
        intro t q
        rw [br_eq] at q
        split at q
        · rename_i e2; exact XS.icmpYes X.here hx rfl rfl hd rfl e2 e1 rfl q
        · rename_i e2; exact XS.icmpNo X.here hx rfl hd rfl (by simpa using e2) q
      · cases h
    · cases h
  · exact absurd rfl hsw
  · cases h
theorem pstep_sound (X : Stand p l e R s m args below meth c T locs cells slots) (hx : p.tables.exec = Jvm.exec) {ρ : Nat → Nat} {i : Instr} {n pc pc' : Nat} {ls ls' : Lv} {st st' : List Value}
    (h : pstep i pc ls st = some (pc', ls', st')) (hd : decode c.code pc = .ok (i, n)) (hn : isSw i = true ∨ n = ilen i) {L : Array Slot} (hL : LR ρ ls L) :
    ∃ L', LR ρ ls' L' ∧ L'.size = L.size ∧ ∀ target, Steps p.tables e below (T.setTop (mkF m pc' L' (st'.map (va ρ)))) target → Steps p.tables e below (T.setTop (mkF m pc L (st.map (va ρ)))) target := by
  by_cases hsw : isSw i = true
  · cases i <;> first | exact absurd hsw Bool.false_ne_true | skip
    simp only [pstep] at h
    split at h
    · rename_i e1; cases h; exact ⟨L, hL, rfl, qstep_sound X hx e1 hd hn⟩
    · cases h
  obtain rfl := hn.resolve_left hsw
  unfold pstep at h
  split at h
  -- loads
  · split at h
    · rename_i e1; cases h; exact ⟨L, hL, rfl, fun t q => XS.iloadN X.here hx rfl hd (hL.2.1 _ _ e1) q⟩
    · cases h
  · split at h
    · rename_i e1; cases h; exact ⟨L, hL, rfl, fun t q => XS.iload X.here hx rfl hd (hL.2.1 _ _ e1) q⟩
    · cases h
  · split at h
    · rename_i e1; cases h; exact ⟨L, hL, rfl, fun t q => XT.lloadN X.here hx rfl hd (hL.2.1 _ _ e1) q⟩
    · cases h
  · split at h
    · rename_i e1; cases h; exact ⟨L, hL, rfl, fun t q => XT.lload X.here hx rfl hd (hL.2.1 _ _ e1) q⟩
    · cases h
  · split at h
    · rename_i e1; cases h; exact ⟨L, hL, rfl, fun t q => XS.aloadN X.here hx rfl hd (hL.2.1 _ _ e1) rfl q⟩
    · cases h
  · split at h
    · rename_i e1; cases h; exact ⟨L, hL, rfl, fun t q => XS.aload X.here hx rfl hd (hL.2.1 _ _ e1) rfl q⟩
    · cases h
  -- stores
  · split at h
    · split at h
      · rename_i e1; cases h
        obtain ⟨L', a1, a2, a3⟩ := store_ok hL (fun x => by simp) e1
        exact ⟨L', a2, a3, fun t q => XS.istoreN X.here hx rfl hd rfl a1 q⟩
      · cases h
    · cases h
  · split at h
    · split at h
      · rename_i e1; cases h
        obtain ⟨L', a1, a2, a3⟩ := store_ok hL (fun x => by simp) e1
        exact ⟨L', a2, a3, fun t q => XS.istore X.here hx rfl hd rfl a1 q⟩
      · cases h
    · cases h
  · split at h
    · split at h
      · rename_i e1; cases h
        obtain ⟨L', a1, a2, a3⟩ := store_ok hL (fun x => by simp) e1
        exact ⟨L', a2, a3, fun t q => XT.lstoreN X.here hx rfl hd rfl a1 q⟩
      · cases h
    · cases h
  · split at h
    · split at h
      · rename_i e1; cases h
        obtain ⟨L', a1, a2, a3⟩ := store_ok hL (fun x => by simp) e1
        exact ⟨L', a2, a3, fun t q => XT.lstore X.here hx rfl hd rfl a1 q⟩
      · cases h
    · cases h
  · split at h
    · split at h
      · rename_i e1; cases h
        obtain ⟨L', a1, a2, a3⟩ := store_ok hL (fun x => by simp) e1
        exact ⟨L', a2, a3, fun t q => XS.astoreN X.here hx rfl hd rfl rfl a1 q⟩
      · cases h
    · cases h
  · split at h
    · split at h
      · rename_i e1; cases h
        obtain ⟨L', a1, a2, a3⟩ := store_ok hL (fun x => by simp) e1
        exact ⟨L', a2, a3, fun t q => XS.astore X.here hx rfl hd rfl rfl a1 q⟩
      · cases h
    · cases h
  · split at h
    · rename_i e0
      split at h
      · rename_i e1; cases h
        obtain ⟨L', a1, a2, a3⟩ := store_ok hL (fun x => by simp) e1
        exact ⟨L', a2, a3, fun t q => XS.iinc X.here hx rfl hd (hL.2.1 _ _ e0) a1 q⟩
      · cases h
    · cases h
  · rename_i hq
    split at h
    · rename_i e1; cases h; exact ⟨L, hL, rfl, qstep_sound X hx e1 hd hn⟩
    · cases h
end Pure
/-! the class's own machine -/
def nd : List Value → Bool
  | [] => true
  | .double _ :: _ => false
  | _ :: r => nd r
theorem nd_spec {as : List Value} (h : nd as = true) : ∀ v ∈ as, ∀ x, v ≠ .double x := by
  induction as with
  | nil => intro v hv; cases hv
  | cons w r ih =>
    intro v hv x e
    rcases List.mem_cons.mp hv with q | q
    · subst q; subst e; cases h
    · refine ih ?_ v q x e
      cases w <;> first | exact h | cases h
def layA : List Value → Lv
  | [] => []
  | .long x :: r => some (.long x) :: none :: layA r
  | v :: r => some v :: layA r
def lay (as : List Value) (n : Nat) : Lv := layA as ++ List.replicate (n - (layA as).length) none
def cats (st : List Value) : Nat := (st.map fun v => v.category).sum
def tyOf : Nat → FieldType
  | 0 => .int
  | 1 => .boolean
  | _ => .long
def atOf : Nat → ArrayType
  | 0 => .int
  | 1 => .boolean
  | _ => .long
def retOf : Nat → Option FieldType
  | 0 => none
  | 1 => some .int
  | 2 => some .boolean
  | _ => some .long
def zs (al : List (Nat × Nat)) (c : Nat) : Nat := ((al.take c).map (·.2)).sum
abbrev Rs := Option (Option Value × St)
def cret (me : Me) (st : List Value) (i : Instr) : Option (Option Value) :=
  match i with
  | .ireturn => match st with
    | [.int x] => if me.rt = 1 then some (some (.int x)) else if me.rt = 2 then some (some (.int (x &&& 1))) else none
    | _ => none
  | .lreturn => match st with
    | [.long x] => if me.rt = 3 then some (some (.long x)) else none
    | _ => none
  | .return_ => match st with
    | [] => if me.rt = 0 then some none else none
    | _ => none
  | _ => none
def isRet : Instr → Bool
  | .ireturn => true
  | .lreturn => true
  | .return_ => true
  | _ => false
def gfld (P : Cl) (x : Nat) (c : Nat) (s : St) : Option Value :=
  match asc P.fx x with
  | none => none
  | some k => match asc P.fs k with
    | none => none
    | some fe => match fe.2.2.1 with
      | 0 => some (.int (gI s 0 k))
      | 1 => some (.int (gI s 0 k))
      | 2 => some (.long (gL s 0 k))
      | j + 3 => if j < c then some (.ref (j + 1)) else none
def pfld (P : Cl) (x : Nat) (ini : Bool) (v : Value) (s : St) : Option St :=
  match asc P.fx x with
  | none => none
  | some k => match asc P.fs k with
    | none => none
    | some fe => if fe.2.2.2 = true ∧ ini = false then none else
      match fe.2.2.1, v with
      | 0, .int z => some (sI s 0 k z)
      | 1, .int z => some (sI s 0 k (z &&& 1))
      | 2, .long z => some (sL s 0 k z)
      | _, _ => none
def newF (P : Cl) (t : ArrayType) (cd : Cd) (pc c : Nat) (st : List Value) : Bool :=
  match st with
  | [.int n, .ref 0] => match fetch cd (pc + 2) with
    | some (.putfield x, 3) => match asc P.fx x with
      | some k => match asc P.fs k with
        | some fe => match P.al[c]? with
          | some (tt, N) => decide (fe.2.2.1 = c + 3 ∧ t = atOf tt ∧ 0 ≤ n.toInt ∧ n.toInt = N ∧ N < 1000000)
          | none => false
        | none => false
      | none => false
    | _ => false
  | _ => false
def lda (P : Cl) (tt c : Nat) (st : List Value) (s : St) : Option (List Value) :=
  match st with
  | .int i :: .ref (a + 1) :: r => match P.al[a]? with
    | some (t2, N) => if t2 = tt ∧ a < c then (if inb N i then some ((if tt = 2 then .long (gL s (a + 1) (ix i)) else .int (gI s (a + 1) (ix i))) :: r) else none) else none
    | none => none
  | _ => none
def sta (P : Cl) (tt c : Nat) (st : List Value) (s : St) : Option (List Value × St) :=
  match st with
  | v :: .int i :: .ref (a + 1) :: r => match P.al[a]? with
    | some (t2, N) => if t2 = tt ∧ a < c then (if inb N i then (match tt, v with
        | 0, .int z => some (r, sI s (a + 1) (ix i) z)
        | 1, .int z => some (r, sI s (a + 1) (ix i) (z &&& 1))
        | 2, .long z => some (r, sL s (a + 1) (ix i) z)
        | _, _ => none) else none) else none
    | none => none
  | _ => none
def cstep {α : Type} (P : Cl) (mi : Nat) (me : Me) (rt : Option Value → St → Option α) (cl : Nat → Nat → List Value → St → Rs) (k : Nat → Nat → Lv → List Value → St → Option α) (i : Instr) (c pc : Nat) (ls : Lv) (st : List Value) (s : St) : Option α :=
  match i with
  | .getfield x => match st with
    | .ref 0 :: r => (match gfld P x c s with | some v => k c (pc + 3) ls (v :: r) s | none => none)
    | _ => none
  | .putfield x => match st with
    | v :: .ref 0 :: r => (match pfld P x (mi == 0) v s with | some s' => k c (pc + 3) ls r s' | none => none)
    | _ => none
  | .iaload => match lda P 0 c st s with | some st' => k c (pc + 1) ls st' s | none => none
  | .baload => match lda P 1 c st s with | some st' => k c (pc + 1) ls st' s | none => none
  | .laload => match lda P 2 c st s with | some st' => k c (pc + 1) ls st' s | none => none
  | .iastore => match sta P 0 c st s with | some (st', s') => k c (pc + 1) ls st' s' | none => none
  | .bastore => match sta P 1 c st s with | some (st', s') => k c (pc + 1) ls st' s' | none => none
  | .lastore => match sta P 2 c st s with | some (st', s') => k c (pc + 1) ls st' s' | none => none
  | .newarray t => if mi = 0 ∧ newF P t me.cd pc c st = true then k (c + 1) (pc + 5) ls [] s else none
  | .ldc x => match asc P.kx x with | some (.int z) => k c (pc + 2) ls (.int z :: st) s | _ => none
  | .ldc2_w x => match asc P.kx x with | some (.long z) => k c (pc + 3) ls (.long z :: st) s | _ => none
  | .invokespecial x => match st with
    | .ref 0 :: r => if x = P.oi ∧ 1 ≤ me.rf ∧ cats r + 12 ≤ me.rl then k c (pc + 3) ls r s else none
    | _ => none
  | .invokevirtual x => match asc P.mx x with
    | none => none
    | some m' => match asc P.ms m' with
      | none => none
      | some me' => match st.drop me'.na with
        | .ref 0 :: r => if m' ≠ 0 ∧ me'.rf + 1 ≤ me.rf ∧ cats r + (me'.ml + 11) + me'.rl ≤ me.rl ∧ nd (st.take me'.na) = true then
            (match cl m' c (.ref 0 :: (st.take me'.na).reverse) s with
             | some (none, s') => k c (pc + 3) ls r s'
             | some (some v, s') => k c (pc + 3) ls (v :: r) s'
             | none => none) else none
        | _ => none
  | i => if isRet i = true then (if mi = 0 ∧ c ≠ P.al.length then none else match cret me st i with | some v => rt v s | none => none)
    else match pstep i pc ls st with | some (pc', ls', st') => k c pc' ls' st' s | none => none
def cexec (P : Cl) : Nat → Nat → Me → Nat → Nat → Lv → List Value → St → Rs
  | 0, _, _, _, _, _, _, _ => none
  | f + 1, mi, me, c, pc, ls, st, s => match fetch me.cd pc with
    | none => none
    | some (i, _) => cstep P mi me (fun v s => some (v, s)) (fun m' c as s => match asc P.ms m' with | some me' => (if (layA as).length ≤ me'.ml then cexec P f m' me' c 0 (lay as me'.ml) [] s else none) | none => none) (cexec P f mi me) i c pc ls st s
def ccall (P : Cl) (f m' c : Nat) (as : List Value) (s : St) : Rs := match asc P.ms m' with | some me' => (if (layA as).length ≤ me'.ml then cexec P f m' me' c 0 (lay as me'.ml) [] s else none) | none => none
end Jvm.LM

namespace Jvm.LM
open Sem ClassFile Op Lib Jvm.Stand Jvm.Free Jvm.LawKit Jvm.RoadKit
/-! how the machine's state stands in the heap -/
theorem adr_ne (a j : Nat) : a + (j + 1) ≠ a := by omega
theorem adr_ne' (a j : Nat) : a ≠ a + (j + 1) := by omega
theorem adr_ne2 (a : Nat) {j k : Nat} (h : j ≠ k) : a + (j + 1) ≠ a + (k + 1) := by omega
def Fval (adr c : Nat) (s : St) (k : Nat) (fe : Fe) : Value :=
  match fe.2.2.1 with
  | 0 => .int (gI s 0 k)
  | 1 => .int (gI s 0 k)
  | 2 => .long (gL s 0 k)
  | j + 3 => if j < c then .ref (adr + (j + 1)) else .null
def elv (tt : Nat) (s : St) (j i : Nat) : Value := if tt = 2 then .long (gL s j i) else .int (gI s j i)
def ARep (Z : State) (h : Heap) (a tt N : Nat) (s : St) (j : Nat) : Prop :=
  ∃ cl : Cell, Arr Z h a cl (tyOf tt) ∧ cl.slots.size = N ∧ ∀ i, i < N → cl.slots[i]? = some (elv tt s j i)
def HRep (P : Cl) (Z : State) (h : Heap) (adr c : Nat) (s : St) : Prop :=
  Exa Z h adr P.nm ∧ (∀ k fe, asc P.fs k = some fe → Fld Z h adr P.nm fe.1 fe.2.1 (Fval adr c s k fe)) ∧
  (∀ (j tt N : Nat), P.al[j]? = some (tt, N) → j < c → ARep Z h (adr + (j + 1)) tt N s (j + 1)) ∧
  (∀ j i, c < j → gI s j i = 0 ∧ gL s j i = 0) ∧ c ≤ P.al.length
def fkTy (P : Cl) : Nat → FieldType
  | 0 => .int
  | 1 => .boolean
  | 2 => .long
  | j + 3 => .array (tyOf ((P.al[j]?.map (·.1)).getD 0))
def yOf (P : Cl) (me : Me) : MethodName := ⟨P.nm, me.nm, me.ds⟩
def LinkC (P : Cl) (Z : State) (a0 : Array Value) : Prop :=
  ((∃ nF, (Cond.instantiable P.nm nF).before a0 Z = true) ∧ (Cond.initialized P.nm).before a0 Z = true) ∧
  (∀ x k, asc P.fx x = some k → ∀ fe, asc P.fs k = some fe → (Cond.fieldLink P.nm x P.nm fe.1 fe.2.1).before a0 Z = true) ∧
  (∀ k fe, asc P.fs k = some fe → (if fe.2.2.2 = true then Cond.laysFinal P.nm P.nm fe.1 fe.2.1 else Cond.lays P.nm P.nm fe.1 fe.2.1).before a0 Z = true) ∧
  (∀ k fe, asc P.fs k = some fe → parseFieldDescriptor fe.2.1 = some (fkTy P fe.2.2.1)) ∧
  (∀ k k' fe fe', asc P.fs k = some fe → asc P.fs k' = some fe' → k ≠ k' → fe.1 ≠ fe'.1 ∧ (3 ≤ fe.2.2.1 → fe.2.2.1 ≠ fe'.2.2.1)) ∧
  (∀ (j tt N : Nat), P.al[j]? = some (tt, N) → tt ≤ 2 ∧ (Cond.arrayClass (tyOf tt)).before a0 Z = true) ∧
  (∀ x v, asc P.kx x = some v → match v with
    | .int z => (Cond.constant P.nm x z).before a0 Z = true
    | .long z => (Cond.constantLong P.nm x z).before a0 Z = true
    | _ => True) ∧
  ((Cond.methodLink P.nm P.oi Lib.objectInit).before a0 Z = true ∧ (Cond.instanceMethod Lib.objectInit).before a0 Z = true ∧ (Cond.code Lib.objectInit ⟨#[0xb1]⟩ 1 none).before a0 Z = true) ∧
  (∀ mi me, asc P.ms mi = some me → ∃ (bytes : ByteArray) (ps : List FieldType), (Cond.code (yOf P me) bytes me.ml (retOf me.rt)).before a0 Z = true ∧
    (∀ pc i n, fetch me.cd pc = some (i, n) → decode bytes pc = .ok (i, n) ∧ (isSw i = true ∨ n = ilen i)) ∧ parseMethodDescriptor me.ds = some ⟨ps, retOf me.rt⟩ ∧ ps.length = me.na) ∧
  (∀ x mi, asc P.mx x = some mi → ∀ me, asc P.ms mi = some me → (Cond.methodLink P.nm x (yOf P me)).before a0 Z = true ∧ (Cond.instanceMethod (yOf P me)).before a0 Z = true ∧
    ((Cond.privateMethod (yOf P me)).before a0 Z = true ∨ ((Cond.declares (yOf P me)).before a0 Z = true ∧ (Cond.selects P.nm (yOf P me) (yOf P me)).before a0 Z = true))) ∧
  plainName P.nm = true ∧ (P.nm ≠ "java/lang/invoke/MethodHandle" ∧ P.nm ≠ "java/lang/invoke/VarHandle") ∧ (∀ me, asc P.ms 0 = some me → me.nm = "<init>")
theorem gI_sI (s : St) (c j : Nat) (v : Int32) (a b : Nat) : gI (sI s c j v) a b = if a = c ∧ b = j then v else gI s a b := rfl
theorem gL_sI (s : St) (c j : Nat) (v : Int32) (a b : Nat) : gL (sI s c j v) a b = gL s a b := rfl
theorem gI_sL (s : St) (c j : Nat) (v : Int64) (a b : Nat) : gI (sL s c j v) a b = gI s a b := rfl
theorem gL_sL (s : St) (c j : Nat) (v : Int64) (a b : Nat) : gL (sL s c j v) a b = if a = c ∧ b = j then v else gL s a b := rfl
theorem laid_of {P : Cl} {Z : State} {a0 : Array Value} (LK : LinkC P Z a0) {k : Nat} {fe : Fe} (hk : asc P.fs k = some fe) : Laid Z a0 P.nm P.nm fe.1 fe.2.1 := by
  have q := LK.2.2.1 k fe hk
  split at q
  · exact Or.inr q
  · exact Or.inl q
/-- a heap that is alike where the object lies -/
theorem HRep.congr {P : Cl} {Z : State} {h h' : Heap} {adr c : Nat} {s : St} (H : HRep P Z h adr c s) (e : ∀ x, adr ≤ x → x < adr + 1 + P.al.length → h'[x]? = h[x]?) : HRep P Z h' adr c s := by
  obtain ⟨h1, h2, h3, h4, h5⟩ := H
  have ea : h'[adr]? = h[adr]? := e adr (Nat.le_refl _) (by omega)
  refine ⟨?_, fun k fe hk => ?_, fun j tt N hj hc => ?_, h4, h5⟩
  · obtain ⟨cell, k, q1, r⟩ := h1; exact ⟨cell, k, by rw [ea]; exact q1, r⟩
  · obtain ⟨cell, cf, k, i, f, q1, r⟩ := h2 k fe hk; exact ⟨cell, cf, k, i, f, by rw [ea]; exact q1, r⟩
  · obtain ⟨cl, ⟨q1, q2⟩, q3⟩ := h3 j tt N hj hc
    exact ⟨cl, ⟨by rw [e _ (by omega) (by omega)]; exact q1, q2⟩, q3⟩
theorem HRep.putFld {P : Cl} {Z : State} {a0 : Array Value} (LK : LinkC P Z a0) {h h' : Heap} {adr c k : Nat} {fe : Fe} {s s' : St} {v : Value} (H : HRep P Z h adr c s) (hk : asc P.fs k = some fe)
    (W : Wr h h' adr (RoadKit.slotOf Z P.nm fe.1 fe.2.1) v) (hv : v = Fval adr c s' k fe) (hI : ∀ a b, (a ≠ 0 ∨ b ≠ k) → gI s' a b = gI s a b ∧ gL s' a b = gL s a b) : HRep P Z h' adr c s' := by
  obtain ⟨h1, h2, h3, h4, h5⟩ := H
  refine ⟨h1.wr W, fun k2 fe2 hk2 => ?_, fun j tt N hj hc => ?_, fun j i hj => ?_, h5⟩
  · by_cases e : k2 = k
    · subst e; cases hk.symm.trans hk2
      rw [← hv]; exact (h2 _ _ hk).same W
    · have hne := (LK.2.2.2.2.1 _ _ _ _ hk2 hk e).1
      have q := (h2 _ _ hk2).other W (Or.inr (slot_ne (laid_of LK hk2) (laid_of LK hk) hne (LK.2.2.2.1 _ _ hk2) (LK.2.2.2.1 _ _ hk)))
      have e2 : Fval adr c s' k2 fe2 = Fval adr c s k2 fe2 := by
        have := hI 0 k2 (Or.inr e)
        simp only [Fval]; split <;> simp [this.1, this.2]
      rw [e2]; exact q
  · obtain ⟨cl, q1, q2, q3⟩ := h3 j tt N hj hc
    refine ⟨cl, q1.other W (adr_ne _ _), q2, fun i hi => ?_⟩
    have := hI (j + 1) i (Or.inl (by omega))
    rw [q3 i hi]; simp only [elv, this.1, this.2]
  · have := hI j i (Or.inl (by omega))
    rw [this.1, this.2]; exact h4 j i hj
theorem HRep.putArr {P : Cl} {Z : State} {h h' : Heap} {adr c a tt N n : Nat} {s s' : St} {v : Value} (H : HRep P Z h adr c s) (ha : P.al[a]? = some (tt, N)) (hac : a < c) (hn : n < N)
    (W : Wr h h' (adr + (a + 1)) n v) (hv : v = elv tt s' (a + 1) n) (hI : ∀ x y, (x ≠ a + 1 ∨ y ≠ n) → gI s' x y = gI s x y ∧ gL s' x y = gL s x y) : HRep P Z h' adr c s' := by
  obtain ⟨h1, h2, h3, h4, h5⟩ := H
  refine ⟨h1.wr W, fun k fe hk => ?_, fun j tt2 N2 hj hc => ?_, fun j i hj => ?_, h5⟩
  · have q := (h2 _ _ hk).other W (Or.inl (adr_ne' _ _))
    have e2 : Fval adr c s' k fe = Fval adr c s k fe := by
      have := hI 0 k (Or.inl (by omega))
      simp only [Fval]; split <;> simp [this.1, this.2]
    rw [e2]; exact q
  · obtain ⟨cl, q1, q2, q3⟩ := h3 j tt2 N2 hj hc
    by_cases e : j = a
    · subst e; cases ha.symm.trans hj
      refine ⟨cl.setSlot n v, q1.same W, by rw [sz_set]; exact q2, fun i hi => ?_⟩
      by_cases ei : i = n
      · subst ei; rw [← hv]; simp [Cell.setSlot, q2, hi]
      · have := hI (j + 1) i (Or.inr ei)
        have q4 := q3 i hi
        simp only [elv, this.1, this.2] at q4 ⊢
        simp only [Cell.setSlot]
        rw [Array.getElem?_setIfInBounds_ne (fun q => ei q.symm)]; exact q4
    · refine ⟨cl, q1.other W (adr_ne2 _ e), q2, fun i hi => ?_⟩
      have := hI (j + 1) i (Or.inl (by omega))
      rw [q3 i hi]; simp only [elv, this.1, this.2]
  · have := hI j i (Or.inl (by omega))
    rw [this.1, this.2]; exact h4 j i hj
theorem HRep.newArr {P : Cl} {Z : State} {a0 : Array Value} (LK : LinkC P Z a0) {h h1 h2 : Heap} {adr c k tt N : Nat} {fe : Fe} {s : St} {n : Int32} {cA : ClassId} (H : HRep P Z h adr c s) (hk : asc P.fs k = some fe) (hkd : fe.2.2.1 = c + 3)
    (ha : P.al[c]? = some (tt, N)) (hn0 : 0 ≤ n.toInt) (hn : n.toInt = N) (hsz : h.size = adr + 1 + c) (E : Ext h h1) (A : Arr Z h1 h.size (newA cA (tyOf tt) n) (tyOf tt)) (W : Wr h1 h2 adr (RoadKit.slotOf Z P.nm fe.1 fe.2.1) (.ref h.size)) : HRep P Z h2 adr (c + 1) s := by
  obtain ⟨g1, g2, g3, g4, g5⟩ := H
  have hc : c < P.al.length := (List.getElem?_eq_some_iff.mp ha).1
  have hNn : n.toNatClampNeg = N := by simp only [Int32.toNatClampNeg]; omega
  have htt := (LK.2.2.2.2.2.1 _ _ _ ha).1
  refine ⟨(g1.ext E).wr W, fun k2 fe2 hk2 => ?_, fun j tt2 N2 hj hjc => ?_, fun j i hj => g4 j i (by omega), hc⟩
  · by_cases e : k2 = k
    · subst e; cases hk.symm.trans hk2
      have q := ((g2 _ _ hk).ext E).same W
      have e2 : Fval adr (c + 1) s k2 fe = .ref h.size := by simp only [Fval, hkd]; rw [if_pos (Nat.lt_succ_self c), hsz]; exact congrArg Value.ref (show adr + (c + 1) = adr + 1 + c by omega)
      rw [e2]; exact q
    · have hne := LK.2.2.2.2.1 _ _ _ _ hk2 hk e
      have q := ((g2 _ _ hk2).ext E).other W (Or.inr (slot_ne (laid_of LK hk2) (laid_of LK hk) hne.1 (LK.2.2.2.1 _ _ hk2) (LK.2.2.2.1 _ _ hk)))
      have e2 : Fval adr (c + 1) s k2 fe2 = Fval adr c s k2 fe2 := by
        simp only [Fval]; split
        · rfl
        · rfl
        · rfl
        · rename_i j hj
          have : j ≠ c := fun q => (hne.2 (by rw [hj]; omega)) (by rw [hj, hkd, q])
          by_cases b : j < c
          · rw [if_pos b, if_pos (by omega)]
          · rw [if_neg b, if_neg (by omega)]
      rw [e2]; exact q
  · by_cases e : j = c
    · subst e; cases ha.symm.trans hj
      have hA : Arr Z h2 h.size (newA cA (tyOf tt) n) (tyOf tt) := A.other W (show h.size ≠ adr by omega)
      refine ⟨newA cA (tyOf tt) n, by rw [show adr + (j + 1) = h.size by omega]; exact hA, by rw [sz_new]; exact hNn, fun i hi => ?_⟩
      have z := g4 (j + 1) i (by omega)
      simp only [newA, hNn, elv, z.1, z.2]
      rw [Array.getElem?_replicate, if_pos hi]
      have : tt = 0 ∨ tt = 1 ∨ tt = 2 := by omega
      rcases this with rfl | rfl | rfl <;> rfl
    · obtain ⟨cl, q1, q2, q3⟩ := g3 j tt2 N2 hj (by omega)
      exact ⟨cl, (q1.ext E).other W (adr_ne _ _), q2, q3⟩
/-- outside the object nothing moves -/
def Kp (h0 h : Heap) (adr n : Nat) : Prop := ∀ x, (x < adr ∨ adr + 1 + n ≤ x) → h[x]? = h0[x]?
theorem Kp.wr {h0 h h' : Heap} {adr n a sl : Nat} {v : Value} (K : Kp h0 h adr n) (W : Wr h h' a sl v) (h1 : adr ≤ a) (h2 : a < adr + 1 + n) : Kp h0 h' adr n := fun x hx => by
  obtain ⟨cell, q1, q2, q3, rfl⟩ := W
  rw [Array.getElem?_setIfInBounds_ne (by omega)]; exact K x hx
theorem Kp.ext {h0 h h' : Heap} {adr n : Nat} (K : Kp h0 h adr n) (E : Ext h h') (h1 : h'.size ≤ adr + 1 + n) (h2 : adr ≤ h.size) : Kp h0 h' adr n := fun x hx => by
  rw [← K x hx]
  by_cases b : x < h.size
  · obtain ⟨c, hc⟩ : ∃ c, h[x]? = some c := ⟨h[x], Array.getElem?_eq_getElem b⟩
    rw [hc]; exact E.2 _ _ hc
  · rw [Array.getElem?_eq_none (by omega), Array.getElem?_eq_none (by omega)]
theorem Kp.trans {h0 h h' : Heap} {adr n : Nat} (K : Kp h0 h adr n) (K' : Kp h h' adr n) : Kp h0 h' adr n := fun x hx => (K' x hx).trans (K x hx)
def cRoom (P : Cl) (mi : Nat) (me : Me) : Room := { frames := me.rf, cells := if mi = 0 then P.al.length else 0, slots := if mi = 0 then zs P.al P.al.length else 0, locals := me.rl }
def QC (P : Cl) (Z : State) (n0 adr mi c : Nat) (w : Option Value) (s' : St) (h0 : Heap) (v : Option Value) (h : Heap) (L : List Loc) : Prop :=
  (v = w ∧ ∀ ρ, v.toList.map (va ρ) = v.toList) ∧ Fr n0 L ∧ HRep P Z h adr (if mi = 0 then P.al.length else c) s' ∧ Kp h0 h adr P.al.length ∧ h.size = (if mi = 0 then adr + 1 + P.al.length else h0.size)
/-- the run from S ends, and so -/
def Don (p : Program) (e : Env) (below : List Frame) (s₀ : State) (rm : Room) (Q : Option Value → Heap → List Loc → Prop) (S : State) : Prop :=
  ∃ s₂ o, Steps p.tables e below S s₂ ∧ s₂.status = .running ∧ Ended s₂ below o ∧ ∃ v L, o = .returned v ∧ Q v s₂.heap L ∧ FrameEnd s₀ o s₂ L rm.cells rm.slots
theorem Don.step {p : Program} {e : Env} {below : List Frame} {s₀ : State} {rm : Room} {Q : Option Value → Heap → List Loc → Prop} {S S' : State} (h : ∀ t, Steps p.tables e below S' t → Steps p.tables e below S t) (D : Don p e below s₀ rm Q S') : Don p e below s₀ rm Q S := by
  obtain ⟨s₂, o, h1, h2⟩ := D; exact ⟨s₂, o, h _ h1, h2⟩
def Inv (P : Cl) (Z : State) (n0 adr mi c : Nat) (s : St) (h0 h : Heap) (locs : List Loc) : Prop :=
  HRep P Z h adr c s ∧ Fr n0 locs ∧ Kp h0 h adr P.al.length ∧ h.size = (if mi = 0 then adr + 1 + c else h0.size)
def co (mi c : Nat) : Nat := if mi = 0 then c else 0
def zo (P : Cl) (mi c : Nat) : Nat := if mi = 0 then zs P.al c else 0
/-- what the walk of a body is to show, at a given fuel -/
def CW (P : Cl) (Z : State) (n0 adr f mi : Nat) (me : Me) : Prop :=
  ∀ (p : Program) (l : Launch) (e : Env) (s₀ : State) (m : MethodId) (args : Array Value) (below : List Frame) (meth : Method) (cd : Code) (T : State) (locs : List Loc) (h0 : Heap) (c pc : Nat) (ls : Lv) (st : List Value) (s : St) (v : Option Value) (s' : St) (L : Array Slot),
    p.tables.exec = Jvm.exec → Z.Warmed39 s₀.vm → s₀.vm.findClass P.nm = some m.cls → meth.name = me.nm → meth.sig.returnType = retOf me.rt → cd.maxLocals = me.ml → meth.locks = false → (mi = 0 → s₀.heap.size = adr + 1) →
    (∀ pc i n, fetch me.cd pc = some (i, n) → decode cd.code pc = .ok (i, n) ∧ (isSw i = true ∨ n = ilen i)) →
    cexec P f mi me c pc ls st s = some (v, s') →
    Stand p l e (cRoom P mi me) s₀ m args below meth cd T locs (co mi c) (zo P mi c) →
    Inv P Z n0 adr mi c s h0 T.heap locs → LR (adr + ·) ls L → ls.length = me.ml →
    Don p e below s₀ (cRoom P mi me) (QC P Z n0 adr mi c v s' h0) (T.setTop (mkF m pc L (st.map (va (adr + ·)))))
theorem zs_mono (al : List (Nat × Nat)) {a b : Nat} (h : a ≤ b) : zs al a ≤ zs al b := by
  obtain ⟨d, rfl⟩ := Nat.le.dest h
  simp only [zs]
  rw [List.take_add, List.map_append, List.sum_append]; omega
theorem zs_succ (al : List (Nat × Nat)) {c tt N : Nat} (h : al[c]? = some (tt, N)) : zs al (c + 1) = zs al c + N := by
  simp only [zs, List.take_add_one, h]; simp
theorem zs_le (al : List (Nat × Nat)) (a : Nat) : zs al a ≤ zs al al.length := by
  by_cases h : a ≤ al.length
  · exact zs_mono al h
  · simp only [zs]; rw [List.take_of_length_le (by omega), List.take_of_length_le (Nat.le_refl _)]
    exact Nat.le_refl _
theorem narrow_I (z : Int32) : narrow .int (.int z) = .int z := rfl
theorem inb_not {n : Nat} {i : Int32} (h : inb n i) : ¬ (i < 0 ∨ n ≤ i.toNatClampNeg) := by
  intro q
  simp only [Int32.lt_iff_toInt_lt, Int32.toNatClampNeg, Int32.reduceToInt] at q
  have := h.1; have := h.2
  omega
theorem inb_ix {n : Nat} {i : Int32} (h : inb n i) : ix i < n := by
  have := h.1; have := h.2
  simp only [ix, Int32.toNatClampNeg]; omega
end Jvm.LM

namespace Jvm.LM
open Sem ClassFile Op Lib Jvm.Stand Jvm.Free Jvm.LawKit Jvm.RoadKit
/-! entering a method -/
def slA : List Value → List Slot
  | [] => []
  | v :: r => if v.category = 2 then .val v :: .second :: slA r else .val v :: slA r
theorem foldl_slA (as : List Value) (acc : Array Slot) : as.foldl (fun acc v => if v.category = 2 then (acc.push (.val v)).push .second else acc.push (.val v)) acc = acc ++ (slA as).toArray := by
  induction as generalizing acc with
  | nil => simp [slA]
  | cons v r ih =>
    rw [List.foldl_cons, ih]
    simp only [slA]
    split <;> simp
theorem al_eq (args : Array Value) (n : Nat) : argsToLocals args n = (let filled := args.foldl (init := #[]) fun acc v => if v.category = 2 then (acc.push (.val v)).push .second else acc.push (.val v); filled ++ Array.replicate (n - filled.size) .unset) := rfl
theorem atl_eq (as : List Value) (n : Nat) : argsToLocals as.toArray n = (slA as ++ List.replicate (n - (slA as).length) Slot.unset).toArray := by
  rw [al_eq]
  have : Array.foldl (fun acc v => if v.category = 2 then (acc.push (Slot.val v)).push .second else acc.push (.val v)) #[] as.toArray = (slA as).toArray := by
    rw [List.foldl_toArray, foldl_slA]; simp
  simp only [this]
  simp
theorem wfl_one {x : Slot} {l : List Slot} (h : WFf (fun k => l[k]?)) (hx : x ≠ .second) (hc : ∀ v, x = .val v → v.category ≠ 2) : WFf (fun k => (x :: l)[k]?) := by
  obtain ⟨h1, h2, h3⟩ := h
  refine ⟨fun k v hk hv => ?_, fun k hk => ?_, ?_⟩
  · cases k with
    | zero => simp at hk; exact absurd hv (hc v hk)
    | succ k => simp at hk ⊢; exact h1 k v hk hv
  · cases k with
    | zero => simp at hk; exact absurd (by simpa using hk) h3
    | succ k => simp at hk ⊢; exact h2 k (by simpa using hk)
  · simpa using hx
theorem wfl_two {v : Value} {l : List Slot} (h : WFf (fun k => l[k]?)) (hc : v.category = 2) : WFf (fun k => (Slot.val v :: .second :: l)[k]?) := by
  obtain ⟨h1, h2, h3⟩ := h
  refine ⟨fun k w hk hv => ?_, fun k hk => ?_, by simp⟩
  · match k with
    | 0 => simp
    | 1 => simp at hk
    | k + 2 => simp at hk ⊢; exact h1 k w hk hv
  · match k with
    | 0 => exact ⟨v, by simp, hc⟩
    | 1 => exact absurd (by simpa using hk) h3
    | k + 2 => simp at hk ⊢; exact h2 k (by simpa using hk)
theorem wfl_rep (n : Nat) : WFf (fun k => (List.replicate n Slot.unset)[k]?) := by
  refine ⟨fun k v hk _ => ?_, fun k hk => ?_, ?_⟩
  · simp [List.getElem?_replicate] at hk
  · simp [List.getElem?_replicate] at hk
  · simp [List.getElem?_replicate]
theorem wfl_slA (as : List Value) (r : List Slot) (h : WFf (fun k => r[k]?)) : WFf (fun k => (slA as ++ r)[k]?) := by
  induction as with
  | nil => simpa [slA] using h
  | cons v t ih =>
    simp only [slA]
    split
    · rename_i hc; exact wfl_two ih hc
    · rename_i hc; exact wfl_one ih (by simp) (fun w hw => by cases hw; exact hc)
theorem slA_len (ρ : Nat → Nat) (as : List Value) (hd : ∀ v ∈ as, ∀ x, v ≠ .double x) : (slA (as.map (va ρ))).length = (layA as).length := by
  induction as with
  | nil => rfl
  | cons v t ih =>
    have ih := ih fun w hw => hd w (List.mem_cons_of_mem _ hw)
    cases v <;> simp [slA, layA, va, Value.category, ih]
    exact absurd rfl (hd _ (List.mem_cons_self ..) _)
theorem layA_get {ρ : Nat → Nat} {as : List Value} (hd : ∀ v ∈ as, ∀ x, v ≠ .double x) {k : Nat} {w : Value} (h : (layA as)[k]? = some (some w)) : (slA (as.map (va ρ)))[k]? = some (.val (va ρ w)) := by
  induction as generalizing k with
  | nil => simp [layA] at h
  | cons v t ih =>
    have ih' := fun {k} => ih (k := k) fun w hw => hd w (List.mem_cons_of_mem _ hw)
    cases v
    case long x =>
      simp only [layA] at h
      match k with
      | 0 => simp at h; subst h; simp [slA, va, Value.category]
      | 1 => simp at h
      | k + 2 => simp at h; simpa [slA, va, Value.category] using ih' h
    case double x => exact absurd rfl (hd _ (List.mem_cons_self ..) _)
    all_goals
      simp only [layA] at h
      match k with
      | 0 => simp at h; subst h; simp [slA, va, Value.category]
      | k + 1 => simp at h; simpa [slA, va, Value.category] using ih' h
theorem lay_LR {ρ : Nat → Nat} {as : List Value} (hd : ∀ v ∈ as, ∀ x, v ≠ .double x) {n : Nat} (hn : (layA as).length ≤ n) : LR ρ (lay as n) (argsToLocals (as.map (va ρ)).toArray n) := by
  rw [atl_eq]
  have hl := slA_len ρ as hd
  refine ⟨by simp [lay, hl], fun k w hk => ?_, ?_⟩
  · simp only [lay] at hk
    rw [List.getElem?_append] at hk
    split at hk
    · have := layA_get (ρ := ρ) hd hk
      rw [List.getElem?_toArray, List.getElem?_append_left (by omega)]; exact this
    · simp [List.getElem?_replicate] at hk
  · have := wfl_slA (as.map (va ρ)) (List.replicate (n - (slA (as.map (va ρ))).length) Slot.unset) (wfl_rep _)
    have q : WFf (fun k => ((slA (as.map (va ρ)) ++ List.replicate (n - (slA (as.map (va ρ))).length) Slot.unset).toArray)[k]?) := by
      simpa using this
    exact q
theorem lay_len {as : List Value} {n : Nat} (hn : (layA as).length ≤ n) : (lay as n).length = n := by simp [lay]; omega
section Call
variable {p : Program} {l : Launch} {e : Env} {R : Room} {s : State} {m : MethodId} {args : Array Value} {below : List Frame} {meth : Method} {c : Code} {T : State} {locs : List Loc} {cells slots : Nat}
/-- a private method of a class that is no interface -/
theorem privCall (X : Stand p l e R s m args below meth c T locs cells slots) (hexec : p.tables.exec = Jvm.exec) {own : String} {index : Nat} {y : MethodName} {bytes : ByteArray} {maxL nF : Nat} {ret : Option FieldType}
    (hown : s.vm.findClass own = some m.cls) (hlink : (Cond.methodLink own index y).before args s = true) (hinst : (Cond.instanceMethod y).before args s = true) (hi : (Cond.instantiable y.cls nF).before args s = true)
    (hpriv : s.PrivateAt y) (hcode : (Cond.code y bytes maxL ret).before args s = true) (hy : y.cls ≠ "java/lang/invoke/MethodHandle" ∧ y.cls ≠ "java/lang/invoke/VarHandle")
    {W : Nat} {Pre : Free.Pt → Array Value → Prop} {Post : Free.Pt → Array Value → Option Value → Free.Pt → Prop} (hK : Free.Back l R p e below s args y 3 W Pre Post)
    {g : JFrame} (hg : g.method = m) (hsize : g.locals.size = c.maxLocals) {a : Addr} {cell : Cell} (hcell : T.heap[a]? = some cell) (hobj : ∀ q, cell.vm ≠ .statics q)
    {argsL rest : List Value} (hlen : ∀ sig, parseMethodDescriptor y.desc = some sig → argsL.length = sig.parameters.length)
    (hstack : g.stack = argsL.reverse ++ .ref a :: rest) (hW : 2 * g.monitorRoom + (rest.map fun v => v.category).sum ≤ W) (hdg : decode c.code g.pc = .ok (.invokevirtual index, 3))
    (hpre : ∀ vm₁, s.WarmedH vm₁ → Pre ⟨T.setVm vm₁, locs, cells, slots⟩ (.ref a :: argsL).toArray) :
    ∃ (v : Option Value) (vm₁ : Vm) (B : Free.Pt), s.WarmedH vm₁ ∧ Stand p l e R s m args below meth c B.U B.locs B.cells B.slots ∧ Post ⟨T.setVm vm₁, locs, cells, slots⟩ (.ref a :: argsL).toArray v B ∧
      Steps p.tables e below (T.setTop g) (B.U.setTop { g with pc := g.pc + 3, stack := v.toList ++ rest }) := by
  obtain ⟨mk, mM, hnamed, hmM, hst, hab⟩ := Cond.instanceMethod_spec hinst
  obtain ⟨mM', cM, hmM', -, -, -, -, -, -, hsig⟩ := Cond.code_spec hnamed hcode
  cases hmM.symm.trans hmM'
  obtain ⟨cc, kk, i1, i2, -, i4, -⟩ := Cond.instantiable_spec hi
  cases (findClass_of_methodNamed hnamed).symm.trans i1
  have hni : kk.isInterface = false := by
    cases q : kk.isInterface
    · rfl
    · rw [q] at i4; simp at i4
  have hsel : selectMethod e.platform s.vm cell.cls mk = .method mk := selectMethod_private hmM (hpriv mk mM hnamed hmM)
  obtain ⟨vm₁, X₁, hstep⟩ := X.invokevirtual hexec hown hlink hnamed hmM hst i2 hni hy hcell hobj hsel hmM hab i2 hni (g := g) hg (hlen _ hsig) hstack hdg
  obtain ⟨v, B, X', hpost, hs⟩ := hK m meth c ⟨T.setVm vm₁, locs, cells, slots⟩ { g with stack := rest } (.invokevirtual index) mk (.ref a :: argsL).toArray X₁ hg hsize hdg hW (X₁.named hnamed) (hpre vm₁ X₁.warmed)
  exact ⟨v, vm₁, B, X₁.warmed, X', hpost, hstep _ fun acts => by rw [doInvoke_state]; exact hs⟩
end Call
theorem cats_va (ρ : Nat → Nat) (st : List Value) : ((st.map (va ρ)).map fun v => v.category).sum = cats st := by
  simp only [cats, List.map_map]; congr 1; exact List.map_congr_left fun v _ => cat_va ρ v
/-- what a method of the class keeps, as a contract, from its walk -/
theorem met_of_CW {P : Cl} {Z : State} {a0 : Array Value} (LK : LinkC P Z a0) {n0 adr f mi : Nat} {me : Me} (hme : asc P.ms mi = some me) (hW : CW P Z n0 adr f mi me) (l : Launch) {bytes : ByteArray}
    (hdec : ∀ pc i n, fetch me.cd pc = some (i, n) → decode bytes pc = .ok (i, n) ∧ (isSw i = true ∨ n = ilen i))
    {as : List Value} (hd : ∀ v ∈ as, ∀ x, v ≠ .double x) (hlen : (layA as).length ≤ me.ml) {c : Nat} {s s' : St} {v : Option Value} {h : Heap} (hr : cexec P f mi me c 0 (lay as me.ml) [] s = some (v, s')) (hc : mi = 0 → c = 0)
    (H : HRep P Z h adr c s) (hsz : mi = 0 → h.size = adr + 1) :
    MetFree l (yOf P me) (head1 [Cond.code (yOf P me) bytes me.ml (retOf me.rt)] (cRoom P mi me)) (fun a U => a = (as.map (va (adr + ·))).toArray ∧ Z.Warmed39 U.vm ∧ U.heap = h) (fun _ _ _ _ _ => True)
      (fun _ U o U' => ∃ w L, o = .returned w ∧ QC P Z n0 adr mi c v s' h w U'.heap L ∧ FrameEnd U o U' L (cRoom P mi me).cells (cRoom P mi me).slots) := by
  refine MetFree.of_bodySF (plainFor_of_name LK.2.2.2.2.2.2.2.2.2.2.1) hisR ?_
  intro p e s₀ m args below meth cd s₁ Bd hml hP hK
  obtain ⟨rfl, hZ, hh⟩ := hP
  have e0 : s₁.heap = h := by rw [← hh, Bd.state]; rfl
  have X0 : Stand p l e (cRoom P mi me) s₀ m _ below meth cd s₁ [] 0 0 := Stand.of_body Bd
  have hown : s₀.vm.findClass P.nm = some m.cls := findClass_of_methodNamed Bd.named
  have hnm : meth.name = me.nm := (name_of_methodNamed Bd.named Bd.method).1
  have hk0 : co mi c = 0 := by simp only [co]; split; · rename_i q; exact hc q
                               · rfl
  have hz0 : zo P mi c = 0 := by
    simp only [zo]; split
    · rename_i q; rw [hc q]; simp [zs]
    · rfl
  have D := hW p l e s₀ m _ below meth cd s₁ [] h c 0 (lay as me.ml) [] s v s' _ Bd.exec hZ hown hnm Bd.returns hml Bd.notSynchronized (fun q => by rw [hh]; exact hsz q)
    (fun pc i n q => by rw [Bd.bytes]; exact hdec pc i n q) hr (by rw [hk0, hz0]; exact X0)
    ⟨by rw [e0]; exact H, Fr.nil n0, by rw [e0]; exact fun x _ => rfl, by
      rw [e0]; split
      · rename_i q; rw [hsz q, hc q]
      · rfl⟩ (lay_LR hd hlen) (lay_len hlen)
  obtain ⟨s₂, o, a1, a2, a3, w, L, a4, a5, a6⟩ := D
  exact ⟨s₂, o, a1, a2, a3, w, L, a4, a5, a6⟩
end Jvm.LM

namespace Jvm.LM
open Sem ClassFile Op Lib Jvm.Stand Jvm.Free Jvm.LawKit Jvm.RoadKit
section Steps
variable {p : Program} {l : Launch} {e : Env} {R : Room} {s₀ : State} {m : MethodId} {args : Array Value} {below : List Frame} {meth : Method} {cd : Code} {T : State} {locs : List Loc} {cells slots : Nat}
variable {P : Cl} {Z : State} {a0 : Array Value} {n0 adr c mi : Nat} {s s' : St} {h0 : Heap}
theorem gfld_val {x : Nat} {w : Value} (hg : gfld P x c s = some w) : ∃ k fe, asc P.fx x = some k ∧ asc P.fs k = some fe ∧ Fval adr c s k fe = va (adr + ·) w := by
  unfold gfld at hg
  split at hg
  · cases hg
  · rename_i k e1
    split at hg
    · cases hg
    · rename_i fe e2
      refine ⟨k, fe, e1, e2, ?_⟩
      simp only [Fval]
      split at hg
      · rename_i e3; cases hg; first | rfl | (rw [e3]; rfl)
      · rename_i e3; cases hg; first | rfl | (rw [e3]; rfl)
      · rename_i e3; cases hg; first | rfl | (rw [e3]; rfl)
      · rename_i j e3
        split at hg
        · rename_i e4; cases hg; first | (simp only [if_pos e4]; rfl) | (rw [e3]; simp only [if_pos e4]; rfl)
        · cases hg
theorem st_get (LK : LinkC P Z a0) (X : Stand p l e R s₀ m args below meth cd T locs cells slots) (hx : p.tables.exec = Jvm.exec) (hZ : Z.Warmed39 s₀.vm) (hown : s₀.vm.findClass P.nm = some m.cls) (H : HRep P Z T.heap adr c s) {x pc : Nat} {w : Value} (hg : gfld P x c s = some w)
    (hd : decode cd.code pc = .ok (.getfield x, 3)) {L : Array Slot} {r : List Value} :
    ∃ T', Stand p l e R s₀ m args below meth cd T' locs cells slots ∧ T'.heap = T.heap ∧ ∀ t, Steps p.tables e below (T'.setTop (mkF m (pc + 3) L (va (adr + ·) w :: r))) t → Steps p.tables e below (T.setTop (mkF m pc L (.ref adr :: r))) t := by
  obtain ⟨k, fe, e1, e2, e3⟩ := gfld_val (adr := adr) hg
  have F := H.2.1 k fe e2
  rw [e3] at F
  exact getF X hx hZ hown (host := "") (Or.inl (LK.2.1 _ _ e1 _ e2)) Via.refl rfl F (g := mkF m pc L (.ref adr :: r)) rfl rfl hd
theorem st_put (LK : LinkC P Z a0) (X : Stand p l e R s₀ m args below meth cd T locs cells slots) (hx : p.tables.exec = Jvm.exec) (hZ : Z.Warmed39 s₀.vm) (hown : s₀.vm.findClass P.nm = some m.cls) (hna : n0 ≤ adr) (I : Inv P Z n0 adr mi c s h0 T.heap locs) {x pc : Nat} {w : Value} {ini : Bool} (hini : ini = true → meth.name = "<init>") (hg : pfld P x ini w s = some s')
    (hd : decode cd.code pc = .ok (.putfield x, 3)) {L : Array Slot} {r : List Value} :
    ∃ T' locs', Stand p l e R s₀ m args below meth cd T' locs' cells slots ∧ Inv P Z n0 adr mi c s' h0 T'.heap locs' ∧ ∀ t, Steps p.tables e below (T'.setTop (mkF m (pc + 3) L r)) t → Steps p.tables e below (T.setTop (mkF m pc L (w :: .ref adr :: r))) t := by
  obtain ⟨H, hFr, hK, hS⟩ := I
  obtain ⟨nF, hnF⟩ := LK.1.1
  unfold pfld at hg
  split at hg
  · cases hg
  · rename_i k e1
    split at hg
    · cases hg
    · rename_i fe e2
      split at hg
      · cases hg
      · rename_i e3
        have hL : (Cond.lays P.nm P.nm fe.1 fe.2.1).before a0 Z = true ∨ ((Cond.laysFinal P.nm P.nm fe.1 fe.2.1).before a0 Z = true ∧ P.nm = P.nm ∧ meth.name = "<init>") := by
          have q := LK.2.2.1 k fe e2
          split at q
          · rename_i e4
            refine Or.inr ⟨q, rfl, hini ?_⟩
            cases ini
            · exact absurd ⟨e4, rfl⟩ e3
            · rfl
          · exact Or.inl q
        have hp := LK.2.2.2.1 k fe e2
        have fin : ∀ {T' : State} {h' : Heap} {v' : Value}, Stand p l e R s₀ m args below meth cd T' (locs ++ [⟨adr, RoadKit.slotOf Z P.nm fe.1 fe.2.1⟩]) cells slots → T'.heap = h' → Wr T.heap h' adr (RoadKit.slotOf Z P.nm fe.1 fe.2.1) v' → v' = Fval adr c s' k fe →
            (∀ a b, (a ≠ 0 ∨ b ≠ k) → gI s' a b = gI s a b ∧ gL s' a b = gL s a b) → Inv P Z n0 adr mi c s' h0 T'.heap (locs ++ [⟨adr, RoadKit.slotOf Z P.nm fe.1 fe.2.1⟩]) := fun {T' h' v'} X' e4 W e5 e6 => by
          rw [e4]
          exact ⟨H.putFld LK e2 W e5 e6, Fr.snoc X' hFr hna, hK.wr W (Nat.le_refl _) (by omega), by rw [W.size]; exact hS⟩
        split at hg
        · rename_i z e4
          cases hg
          rw [e4] at hp
          obtain ⟨T', h', X', q1, W, st⟩ := putF X hx hZ hown (host := "") (Or.inl (LK.2.1 _ _ e1 _ e2)) Via.refl rfl (H.2.1 k fe e2) H.1 hL hnF hp (narrow_I z) rfl (g := mkF m pc L (.int z :: .ref adr :: r)) rfl rfl hd
          refine ⟨T', _, X', fin X' q1 W (by simp only [Fval, e4]; simp [gI_sI]) (fun a b hab => ?_), st⟩
          rw [gI_sI, gL_sI, if_neg (by omega)]; exact ⟨rfl, rfl⟩
        · rename_i z e4
          cases hg
          rw [e4] at hp
          obtain ⟨T', h', X', q1, W, st⟩ := putFN X hx hZ hown (LK.2.1 _ _ e1 _ e2) Via.refl rfl (H.2.1 k fe e2) H.1 hL hnF (v' := .int (z &&& 1)) hp rfl (fits_nar_bool z) (g := mkF m pc L (.int z :: .ref adr :: r)) rfl rfl hd
          refine ⟨T', _, X', fin X' q1 W (by simp only [Fval, e4]; simp [gI_sI]) (fun a b hab => ?_), st⟩
          rw [gI_sI, gL_sI, if_neg (by omega)]; exact ⟨rfl, rfl⟩
        · rename_i z e4
          cases hg
          rw [e4] at hp
          obtain ⟨T', h', X', q1, W, st⟩ := putF X hx hZ hown (host := "") (Or.inl (LK.2.1 _ _ e1 _ e2)) Via.refl rfl (H.2.1 k fe e2) H.1 hL hnF hp rfl rfl (g := mkF m pc L (.long z :: .ref adr :: r)) rfl rfl hd
          refine ⟨T', _, X', fin X' q1 W (by simp only [Fval, e4]; simp [gL_sL]) (fun a b hab => ?_), st⟩
          rw [gL_sL, gI_sL, if_neg (by omega)]; exact ⟨rfl, rfl⟩
        · cases hg
theorem lda_spec {tt : Nat} {st st' : List Value} (hl : lda P tt c st s = some st') : ∃ i a r N, st = .int i :: .ref (a + 1) :: r ∧ P.al[a]? = some (tt, N) ∧ a < c ∧ inb N i ∧ st' = elv tt s (a + 1) (ix i) :: r := by
  unfold lda at hl
  split at hl
  · rename_i i a r
    split at hl
    · rename_i t2 N e1
      split at hl
      · rename_i e2
        obtain ⟨rfl, e3⟩ := e2
        split at hl
        · rename_i e4; cases hl; exact ⟨i, a, r, N, rfl, e1, e3, e4, rfl⟩
        · cases hl
      · cases hl
    · cases hl
  · cases hl
theorem va_elv (ρ : Nat → Nat) (tt : Nat) (s : St) (j i : Nat) : va ρ (elv tt s j i) = elv tt s j i := by unfold elv; split <;> rfl
theorem st_lda (X : Stand p l e R s₀ m args below meth cd T locs cells slots) (hx : p.tables.exec = Jvm.exec) (hZ : Z.Warmed39 s₀.vm) (H : HRep P Z T.heap adr c s) {tt pc : Nat} {st st' : List Value} (hl : lda P tt c st s = some st') {i : Instr}
    (hi : (tt = 0 ∧ i = .iaload) ∨ (tt = 1 ∧ i = .baload) ∨ (tt = 2 ∧ i = .laload)) (hd : decode cd.code pc = .ok (i, 1)) {L : Array Slot} :
    ∀ t, Steps p.tables e below (T.setTop (mkF m (pc + 1) L (st'.map (va (adr + ·))))) t → Steps p.tables e below (T.setTop (mkF m pc L (st.map (va (adr + ·))))) t := by
  obtain ⟨j, a, r, N, rfl, e1, e2, e3, rfl⟩ := lda_spec hl
  obtain ⟨cl, A, hN, hv⟩ := H.2.2.1 a tt N e1 e2
  have hin : ¬ (j < 0 ∨ cl.slots.size ≤ j.toNatClampNeg) := by rw [hN]; exact inb_not e3
  have hat : cl.slots[j.toNatClampNeg]? = some (elv tt s (a + 1) (ix j)) := hv (ix j) (inb_ix e3)
  intro t q
  rw [List.map_cons, va_elv] at q
  rcases hi with ⟨rfl, rfl⟩ | ⟨rfl, rfl⟩ | ⟨rfl, rfl⟩
  · exact X.iaload hx A.1 (State.isArrayOf_alike hZ.alike A.2.1) A.2.2 hin hat (g := mkF m pc L (.int j :: .ref (adr + (a + 1)) :: r.map (va (adr + ·)))) rfl rfl hd t q
  · exact X.baloadBooleans hx A.1 (State.isArrayOf_alike hZ.alike A.2.1) A.2.2 hin hat (g := mkF m pc L (.int j :: .ref (adr + (a + 1)) :: r.map (va (adr + ·)))) rfl rfl hd t q
  · exact X.laload hx A.1 (State.isArrayOf_alike hZ.alike A.2.1) A.2.2 hin hat (g := mkF m pc L (.int j :: .ref (adr + (a + 1)) :: r.map (va (adr + ·)))) rfl rfl hd t q
theorem sta_spec {tt : Nat} {st st' : List Value} (hl : sta P tt c st s = some (st', s')) : ∃ v i a N, st = v :: .int i :: .ref (a + 1) :: st' ∧ P.al[a]? = some (tt, N) ∧ a < c ∧ inb N i ∧
    ((tt = 0 ∧ ∃ z, v = .int z ∧ s' = sI s (a + 1) (ix i) z) ∨ (tt = 1 ∧ ∃ z, v = .int z ∧ s' = sI s (a + 1) (ix i) (z &&& 1)) ∨ (tt = 2 ∧ ∃ z, v = .long z ∧ s' = sL s (a + 1) (ix i) z)) := by
  unfold sta at hl
  split at hl
  · rename_i v i a r
    split at hl
    · rename_i t2 N e1
      split at hl
      · rename_i e2
        obtain ⟨rfl, e3⟩ := e2
        split at hl
        · rename_i e4
          split at hl
          · cases hl; exact ⟨_, i, a, N, rfl, e1, e3, e4, Or.inl ⟨rfl, _, rfl, rfl⟩⟩
          · cases hl; exact ⟨_, i, a, N, rfl, e1, e3, e4, Or.inr (Or.inl ⟨rfl, _, rfl, rfl⟩)⟩
          · cases hl; exact ⟨_, i, a, N, rfl, e1, e3, e4, Or.inr (Or.inr ⟨rfl, _, rfl, rfl⟩)⟩
          · cases hl
        · cases hl
      · cases hl
    · cases hl
  · cases hl
theorem st_sta (X : Stand p l e R s₀ m args below meth cd T locs cells slots) (hx : p.tables.exec = Jvm.exec) (hZ : Z.Warmed39 s₀.vm) (hna : n0 ≤ adr) (I : Inv P Z n0 adr mi c s h0 T.heap locs) {tt pc : Nat} {st st' : List Value} (hl : sta P tt c st s = some (st', s')) {i : Instr}
    (hi : (tt = 0 ∧ i = .iastore) ∨ (tt = 1 ∧ i = .bastore) ∨ (tt = 2 ∧ i = .lastore)) (hd : decode cd.code pc = .ok (i, 1)) {L : Array Slot} :
    ∃ T' locs', Stand p l e R s₀ m args below meth cd T' locs' cells slots ∧ Inv P Z n0 adr mi c s' h0 T'.heap locs' ∧ ∀ t, Steps p.tables e below (T'.setTop (mkF m (pc + 1) L (st'.map (va (adr + ·))))) t → Steps p.tables e below (T.setTop (mkF m pc L (st.map (va (adr + ·))))) t := by
  obtain ⟨H, hFr, hK, hS⟩ := I
  obtain ⟨v, j, a, N, rfl, e1, e2, e3, e4⟩ := sta_spec hl
  obtain ⟨cl, A, hN, hv⟩ := H.2.2.1 a tt N e1 e2
  have hin : ¬ (j < 0 ∨ cl.slots.size ≤ j.toNatClampNeg) := by rw [hN]; exact inb_not e3
  have hal := (List.getElem?_eq_some_iff.mp e1).1
  have fin : ∀ {T' : State} {h' : Heap} {v' : Value}, Stand p l e R s₀ m args below meth cd T' (locs ++ [⟨adr + (a + 1), j.toNatClampNeg⟩]) cells slots → T'.heap = h' → Wr T.heap h' (adr + (a + 1)) j.toNatClampNeg v' → v' = elv tt s' (a + 1) (ix j) →
      (∀ x y, (x ≠ a + 1 ∨ y ≠ ix j) → gI s' x y = gI s x y ∧ gL s' x y = gL s x y) → Inv P Z n0 adr mi c s' h0 T'.heap (locs ++ [⟨adr + (a + 1), j.toNatClampNeg⟩]) := fun {T' h' v'} X' q1 W q2 q3 => by
    rw [q1]
    exact ⟨H.putArr e1 e2 (inb_ix e3) W q2 q3, Fr.snoc X' hFr (by omega), hK.wr W (by omega) (by omega), by rw [W.size]; exact hS⟩
  rcases e4 with ⟨rfl, z, rfl, rfl⟩ | ⟨rfl, z, rfl, rfl⟩ | ⟨rfl, z, rfl, rfl⟩
  · obtain ⟨-, rfl⟩ : (0 : Nat) = 0 ∧ i = .iastore := by rcases hi with q | q | q <;> first | exact q | (have := q.1; omega)
    obtain ⟨T', h', X', q1, W, st⟩ := stI X hx hZ rfl A hin (g := mkF m pc L (.int z :: .int j :: .ref (adr + (a + 1)) :: st'.map (va (adr + ·)))) rfl rfl hd
    refine ⟨T', _, X', fin X' q1 W (by simp [elv, gI_sI, ix]) (fun x y hxy => ?_), st⟩
    rw [gI_sI, gL_sI, if_neg (fun q => hxy.elim (fun z => z q.1) (fun z => z q.2))]; exact ⟨rfl, rfl⟩
  · obtain ⟨-, rfl⟩ : (1 : Nat) = 1 ∧ i = .bastore := by rcases hi with q | q | q <;> first | exact q | (have := q.1; omega)
    obtain ⟨T', h', X', q1, W, st⟩ := stZ X hx hZ rfl A hin (g := mkF m pc L (.int z :: .int j :: .ref (adr + (a + 1)) :: st'.map (va (adr + ·)))) rfl rfl hd
    refine ⟨T', _, X', fin X' q1 W (by simp [elv, gI_sI, ix, nar]) (fun x y hxy => ?_), st⟩
    rw [gI_sI, gL_sI, if_neg (fun q => hxy.elim (fun z => z q.1) (fun z => z q.2))]; exact ⟨rfl, rfl⟩
  · obtain ⟨-, rfl⟩ : (2 : Nat) = 2 ∧ i = .lastore := by rcases hi with q | q | q <;> first | exact q | (have := q.1; omega)
    obtain ⟨T', h', X', q1, W, st⟩ := stJ X hx hZ rfl A hin (g := mkF m pc L (.long z :: .int j :: .ref (adr + (a + 1)) :: st'.map (va (adr + ·)))) rfl rfl hd
    refine ⟨T', _, X', fin X' q1 W (by simp [elv, gL_sL, ix]) (fun x y hxy => ?_), st⟩
    rw [gL_sL, gI_sL, if_neg (fun q => hxy.elim (fun z => z q.1) (fun z => z q.2))]; exact ⟨rfl, rfl⟩
theorem newF_spec {t : ArrayType} {code : Cd} {pc : Nat} {st : List Value} (h : newF P t code pc c st = true) : ∃ n x k fe tt N, st = [.int n, .ref 0] ∧ fetch code (pc + 2) = some (.putfield x, 3) ∧ asc P.fx x = some k ∧ asc P.fs k = some fe ∧ P.al[c]? = some (tt, N) ∧
    fe.2.2.1 = c + 3 ∧ t = atOf tt ∧ 0 ≤ n.toInt ∧ n.toInt = N ∧ N < 1000000 := by
  unfold newF at h
  split at h
  · rename_i n
    split at h
    · rename_i x e1
      split at h
      · rename_i k e2
        split at h
        · rename_i fe e3
          split at h
          · rename_i tt N e4
            obtain ⟨q1, q2, q3, q4, q5⟩ := of_decide_eq_true h
            exact ⟨n, x, k, fe, tt, N, rfl, e1, e2, e3, e4, q1, q2, q3, q4, q5⟩
          · cases h
        · cases h
      · cases h
    · cases h
  · cases h
theorem ty_at {tt : Nat} (h : tt ≤ 2) : newarray.typeOf (atOf tt) = tyOf tt := by
  have : tt = 0 ∨ tt = 1 ∨ tt = 2 := by omega
  rcases this with rfl | rfl | rfl <;> rfl
theorem st_new (LK : LinkC P Z a0) {me : Me} (hme : asc P.ms 0 = some me) (hnm : meth.name = me.nm) (X : Stand p l e (cRoom P 0 me) s₀ m args below meth cd T locs (co 0 c) (zo P 0 c)) (hx : p.tables.exec = Jvm.exec) (hZ : Z.Warmed39 s₀.vm) (hown : s₀.vm.findClass P.nm = some m.cls) (hna : n0 ≤ adr) (hs0 : s₀.heap.size = adr + 1) (I : Inv P Z n0 adr 0 c s h0 T.heap locs)
    (hdec : ∀ pc i n, fetch me.cd pc = some (i, n) → decode cd.code pc = .ok (i, n) ∧ (isSw i = true ∨ n = ilen i)) {t : ArrayType} {pc : Nat} {st : List Value} (h : newF P t me.cd pc c st = true) (hd : decode cd.code pc = .ok (.newarray t, 2)) {L : Array Slot} :
    ∃ T' locs', Stand p l e (cRoom P 0 me) s₀ m args below meth cd T' locs' (co 0 (c + 1)) (zo P 0 (c + 1)) ∧ Inv P Z n0 adr 0 (c + 1) s h0 T'.heap locs' ∧ ∀ t, Steps p.tables e below (T'.setTop (mkF m (pc + 5) L [])) t → Steps p.tables e below (T.setTop (mkF m pc L (st.map (va (adr + ·))))) t := by
  obtain ⟨H, hFr, hK, hS⟩ := I
  obtain ⟨nF, hnF⟩ := LK.1.1
  obtain ⟨n, x, k, fe, tt, N, rfl, e1, e2, e3, e4, e5, rfl, e6, e7, e8⟩ := newF_spec h
  obtain ⟨htt, hac⟩ := LK.2.2.2.2.2.1 _ _ _ e4
  have hal := (List.getElem?_eq_some_iff.mp e4).1
  have hS' : T.heap.size = adr + 1 + c := hS
  have hty := ty_at htt
  have hini : meth.name = "<init>" := by rw [hnm]; exact LK.2.2.2.2.2.2.2.2.2.2.2.2 me hme
  have hLy : (Cond.lays P.nm P.nm fe.1 fe.2.1).before a0 Z = true ∨ ((Cond.laysFinal P.nm P.nm fe.1 fe.2.1).before a0 Z = true ∧ P.nm = P.nm ∧ meth.name = "<init>") := by
    have q := LK.2.2.1 k fe e3
    split at q
    · exact Or.inr ⟨q, rfl, hini⟩
    · exact Or.inl q
  have hzc := zs_succ P.al e4
  have hzm := zs_le P.al (c + 1)
  obtain ⟨T1, hp1, cA, X1, q1, E, A, st1⟩ := newP X hx hZ (aty := atOf tt) (by rw [hty]; exact hac) rfl (g := mkF m pc L [.int n, .ref adr]) rfl hd rfl (by rw [Int32.lt_iff_toInt_lt]; simp only [Int32.reduceToInt]; omega) (cap := N)
    (by simp only [Int32.toNatClampNeg]; omega) (by omega) (by simp only [co, cRoom, if_true]; omega) (by simp only [zo, cRoom, if_true]; omega)
  rw [hty] at A
  have hp := LK.2.2.2.1 k fe e3
  rw [e5] at hp
  obtain ⟨d2, -⟩ := hdec _ _ _ e1
  have hsz1 : hp1.size = adr + 1 + (c + 1) := by
    have hh : T1.heap.size ≤ s₀.heap.size + (c + 1) := X1.heapSize
    have g2 : T.heap.size < Array.size hp1 := A.lt
    rw [q1, hs0] at hh
    rw [hS'] at g2
    omega
  obtain ⟨T2, hp2, X2, q2, W, st2⟩ := putF X1 hx hZ hown (host := "") (Or.inl (LK.2.1 _ _ e2 _ e3)) Via.refl q1 ((H.2.1 k fe e3).ext E) (H.1.ext E) hLy hnF (v := .ref T.heap.size) hp rfl rfl (g := mkF m (pc + 2) L [.ref T.heap.size, .ref adr]) rfl rfl d2
  refine ⟨T2, _, by simpa [co, zo, hzc] using X2, ?_, fun t q => st1 _ (st2 _ q)⟩
  rw [q2]
  refine ⟨H.newArr LK e3 e5 e4 e6 e7 hS' E A W, Fr.snoc X2 hFr hna, ?_, by rw [W.size, hsz1]; simp⟩
  exact (hK.ext E (by rw [hsz1]; omega) (by omega)).wr W (Nat.le_refl _) (by omega)
end Steps
end Jvm.LM

namespace Jvm.LM
open Sem ClassFile Op Lib Jvm.Stand Jvm.Free Jvm.LawKit Jvm.RoadKit
theorem cret_spec {me : Me} {st : List Value} {i : Instr} {v : Option Value} (h : cret me st i = some v) :
    (∃ x, i = .ireturn ∧ st = [.int x] ∧ ((me.rt = 1 ∧ v = some (.int x)) ∨ (me.rt = 2 ∧ v = some (.int (x &&& 1))))) ∨ (∃ x, i = .lreturn ∧ st = [.long x] ∧ me.rt = 3 ∧ v = some (.long x)) ∨ (i = .return_ ∧ st = [] ∧ me.rt = 0 ∧ v = none) := by
  unfold cret at h
  split at h
  · split at h
    · rename_i x
      split at h
      · rename_i e1; cases h; exact Or.inl ⟨x, rfl, rfl, Or.inl ⟨e1, rfl⟩⟩
      · split at h
        · rename_i e1; cases h; exact Or.inl ⟨x, rfl, rfl, Or.inr ⟨e1, rfl⟩⟩
        · cases h
    · cases h
  · split at h
    · rename_i x
      split at h
      · rename_i e1; cases h; exact Or.inr (Or.inl ⟨x, rfl, rfl, e1, rfl⟩)
      · cases h
    · cases h
  · split at h
    · split at h
      · rename_i e1; cases h; exact Or.inr (Or.inr ⟨rfl, rfl, e1, rfl⟩)
      · cases h
    · cases h
  · cases h
section Ret
variable {p : Program} {l : Launch} {e : Env} {R : Room} {s₀ : State} {m : MethodId} {args : Array Value} {below : List Frame} {meth : Method} {cd : Code} {T : State} {locs : List Loc} {cells slots : Nat}
theorem retI' (X : Stand p l e R s₀ m args below meth cd T locs cells slots) (hx : p.tables.exec = Jvm.exec) {pc : Nat} {Ls : Array Slot} {z : Int32} {rest : List Value} (hret : meth.sig.returnType = some .int) (hd : decode cd.code pc = .ok (.ireturn, 1)) {fs : List Frame}
    (hl : ∀ (f : JFrame) (acts : List Action), f.method = m → f.locked = none → f.entered = [] → (doReturn e (T.setTop f) acts (some (.int z))).1 = T.setFrames fs) : Steps p.tables e below (T.setTop (mkF m pc Ls (.int z :: rest))) (T.setFrames fs) :=
  retOut X hx (t := .int) (i := .ireturn) hret rfl (Or.inl ⟨rfl, Or.inl rfl, z, rfl⟩) hd hl
theorem st_ret (X : Stand p l e R s₀ m args below meth cd T locs cells slots) (hx : p.tables.exec = Jvm.exec) {me : Me} (hret : meth.sig.returnType = retOf me.rt) (hlk : meth.locks = false) {ρ : Nat → Nat} {st : List Value} {i : Instr} {v : Option Value} (h : cret me st i = some v) {pc n : Nat} (hd : decode cd.code pc = .ok (i, n)) (hn : isSw i = true ∨ n = ilen i)
    {Q : Option Value → Heap → List Loc → Prop} (hQ : Q v T.heap locs) (hc : cells ≤ R.cells) (hs : slots ≤ R.slots) {L : Array Slot} : Don p e below s₀ R Q (T.setTop (mkF m pc L (st.map (va ρ)))) := by
  rcases cret_spec h with ⟨x, rfl, rfl, h1⟩ | ⟨x, rfl, rfl, h1, rfl⟩ | ⟨rfl, rfl, h1, rfl⟩
  · obtain rfl := hn.resolve_left Bool.false_ne_true
    rcases h1 with ⟨h1, rfl⟩ | ⟨h1, rfl⟩
    · rw [h1] at hret
      obtain ⟨fs, hr, hrun, hended, hW, hsame⟩ := X.leave (v := some (.int x)) (fun q => by rw [hret] at q; cases q) hlk
      exact ⟨_, _, retI' X hx hret hd hr, hrun, hended, _, _, rfl, hQ, ⟨_, rfl⟩, hW, hsame.mono hc hs⟩
    · rw [h1] at hret
      obtain ⟨fs, hr, hrun, hended, hW, hsame⟩ := X.leave (v := some (.int (x &&& 1))) (fun q => by rw [hret] at q; cases q) hlk
      exact ⟨_, _, retN X hx (t := .boolean) hret (Or.inl rfl) hd hr, hrun, hended, _, _, rfl, hQ, ⟨_, rfl⟩, hW, hsame.mono hc hs⟩
  · obtain rfl := hn.resolve_left Bool.false_ne_true
    rw [h1] at hret
    obtain ⟨fs, hr, hrun, hended, hW, hsame⟩ := X.leave (v := some (.long x)) (fun q => by rw [hret] at q; cases q) hlk
    exact ⟨_, _, retOut X hx (t := .long) (i := .lreturn) hret rfl (Or.inr (Or.inl ⟨rfl, rfl, x, rfl⟩)) hd hr, hrun, hended, _, _, rfl, hQ, ⟨_, rfl⟩, hW, hsame.mono hc hs⟩
  · obtain rfl := hn.resolve_left Bool.false_ne_true
    rw [h1] at hret
    obtain ⟨fs, hr, hrun, hended, hW, hsame⟩ := X.leave (v := none) (fun _ => rfl) hlk
    exact ⟨_, _, X.returnOut hx hret hd hr, hrun, hended, _, _, rfl, hQ, ⟨_, rfl⟩, hW, hsame.mono hc hs⟩
end Ret
theorem cret_va {me : Me} {st : List Value} {i : Instr} {v : Option Value} (h : cret me st i = some v) (ρ : Nat → Nat) : v.toList.map (va ρ) = v.toList := by
  rcases cret_spec h with ⟨x, rfl, rfl, ⟨-, rfl⟩ | ⟨-, rfl⟩⟩ | ⟨x, rfl, rfl, -, rfl⟩ | ⟨rfl, rfl, -, rfl⟩ <;> rfl
theorem nd_rev {ρ : Nat → Nat} {as : List Value} (h : nd as = true) : ∀ v ∈ (Value.ref 0 :: as.reverse), ∀ x, v ≠ .double x := fun v hv x e => by
  rcases List.mem_cons.mp hv with q | q
  · subst q; cases e
  · exact nd_spec h v (List.mem_reverse.mp q) x e
theorem pfld_va {P : Cl} {x : Nat} {ini : Bool} {w : Value} {s s1 : St} (hg : pfld P x ini w s = some s1) (ρ : Nat → Nat) : va ρ w = w := by
  cases w <;> first | rfl | skip
  exfalso
  unfold pfld at hg
  split at hg
  · cases hg
  · split at hg
    · cases hg
    · split at hg
      · cases hg
      · split at hg
        · rename_i q; cases q
        · rename_i q; cases q
        · rename_i q; cases q
        · cases hg
theorem cwalk {P : Cl} {Z : State} {a0 : Array Value} (LK : LinkC P Z a0) {n0 adr : Nat} (hna : n0 ≤ adr) : ∀ f mi me, asc P.ms mi = some me → CW P Z n0 adr f mi me := by
  intro f
  induction f with
  | zero =>
    intro mi me hme p l e s₀ m args below meth cd T locs h0 c pc ls st s v s' L hx hZ hown hnm hret hml hlk hs0 hdec hr
    cases hr
  | succ f ih =>
    intro mi me hme p l e s₀ m args below meth cd T locs h0 c pc ls st s v s' L hx hZ hown hnm hret hml hlk hs0 hdec hr X I hL hlen
    simp only [cexec] at hr
    split at hr
    · cases hr
    · rename_i i n hf
      obtain ⟨hd, hn⟩ := hdec pc i n hf
      have ihk := ih mi me hme
      have hsize : L.size = cd.maxLocals := by rw [hL.1, hlen, hml]
      obtain ⟨nF, hnF⟩ := LK.1.1
      unfold cstep at hr
      split at hr
      -- getfield
      · obtain rfl := hn.resolve_left Bool.false_ne_true
        split at hr
        · rename_i r
          split at hr
          · rename_i w hg
            obtain ⟨T', X', q1, st⟩ := st_get LK X hx hZ hown I.1 hg hd (L := L) (r := r.map (va (adr + ·)))
            exact Don.step st (ihk p l e s₀ m args below meth cd T' locs h0 c _ ls (w :: r) s v s' L hx hZ hown hnm hret hml hlk hs0 hdec hr X' (by rw [q1]; exact I) hL hlen)
          · cases hr
        · cases hr
      -- putfield
      · obtain rfl := hn.resolve_left Bool.false_ne_true
        split at hr
        · rename_i w r
          split at hr
          · rename_i s1 hg
            have hini : (mi == 0) = true → meth.name = "<init>" := fun q => by
              have q : mi = 0 := by simpa using q
              subst q; rw [hnm]; exact LK.2.2.2.2.2.2.2.2.2.2.2.2 me hme
            have hw : va (adr + ·) w = w := pfld_va hg _
            obtain ⟨T', locs', X', I', st⟩ := st_put LK X hx hZ hown hna I hini hg hd (L := L) (r := r.map (va (adr + ·)))
            refine Don.step (fun t q => ?_) (ihk p l e s₀ m args below meth cd T' locs' h0 c _ ls r s1 v s' L hx hZ hown hnm hret hml hlk hs0 hdec hr X' I' hL hlen)
            have := st t q
            rw [List.map_cons, hw]; exact this
          · cases hr
        · cases hr
      -- loads of arrays
      · obtain rfl := hn.resolve_left Bool.false_ne_true
        split at hr
        · rename_i st' hg
          exact Don.step (st_lda X hx hZ I.1 hg (Or.inl ⟨rfl, rfl⟩) hd) (ihk p l e s₀ m args below meth cd T locs h0 c _ ls st' s v s' L hx hZ hown hnm hret hml hlk hs0 hdec hr X I hL hlen)
        · cases hr
      · obtain rfl := hn.resolve_left Bool.false_ne_true
        split at hr
        · rename_i st' hg
          exact Don.step (st_lda X hx hZ I.1 hg (Or.inr (Or.inl ⟨rfl, rfl⟩)) hd) (ihk p l e s₀ m args below meth cd T locs h0 c _ ls st' s v s' L hx hZ hown hnm hret hml hlk hs0 hdec hr X I hL hlen)
        · cases hr
      · obtain rfl := hn.resolve_left Bool.false_ne_true
        split at hr
        · rename_i st' hg
          exact Don.step (st_lda X hx hZ I.1 hg (Or.inr (Or.inr ⟨rfl, rfl⟩)) hd) (ihk p l e s₀ m args below meth cd T locs h0 c _ ls st' s v s' L hx hZ hown hnm hret hml hlk hs0 hdec hr X I hL hlen)
        · cases hr
      -- stores into arrays
      · obtain rfl := hn.resolve_left Bool.false_ne_true
        split at hr
        · rename_i st' s1 hg
          obtain ⟨T', locs', X', I', st⟩ := st_sta X hx hZ hna I hg (Or.inl ⟨rfl, rfl⟩) hd (L := L)
          exact Don.step st (ihk p l e s₀ m args below meth cd T' locs' h0 c _ ls st' s1 v s' L hx hZ hown hnm hret hml hlk hs0 hdec hr X' I' hL hlen)
        · cases hr
      · obtain rfl := hn.resolve_left Bool.false_ne_true
        split at hr
        · rename_i st' s1 hg
          obtain ⟨T', locs', X', I', st⟩ := st_sta X hx hZ hna I hg (Or.inr (Or.inl ⟨rfl, rfl⟩)) hd (L := L)
          exact Don.step st (ihk p l e s₀ m args below meth cd T' locs' h0 c _ ls st' s1 v s' L hx hZ hown hnm hret hml hlk hs0 hdec hr X' I' hL hlen)
        · cases hr
      · obtain rfl := hn.resolve_left Bool.false_ne_true
        split at hr
        · rename_i st' s1 hg
          obtain ⟨T', locs', X', I', st⟩ := st_sta X hx hZ hna I hg (Or.inr (Or.inr ⟨rfl, rfl⟩)) hd (L := L)
          exact Don.step st (ihk p l e s₀ m args below meth cd T' locs' h0 c _ ls st' s1 v s' L hx hZ hown hnm hret hml hlk hs0 hdec hr X' I' hL hlen)
        · cases hr
      -- newarray and putfield
      · obtain rfl := hn.resolve_left Bool.false_ne_true
        split at hr
        · rename_i hg
          obtain ⟨rfl, hg⟩ := hg
          obtain ⟨T', locs', X', I', st⟩ := st_new LK hme hnm X hx hZ hown hna (hs0 rfl) I hdec hg hd (L := L)
          exact Don.step st (ihk p l e s₀ m args below meth cd T' locs' h0 (c + 1) _ ls [] s v s' L hx hZ hown hnm hret hml hlk hs0 hdec hr X' I' hL hlen)
        · cases hr
      -- constants
      · obtain rfl := hn.resolve_left Bool.false_ne_true
        split at hr
        · rename_i z hg
          exact Don.step (fun t q => X.ldcI hx hown (mv hZ (LK.2.2.2.2.2.2.1 _ _ hg)) (g := mkF m pc L (st.map (va (adr + ·)))) rfl hd q) (ihk p l e s₀ m args below meth cd T locs h0 c _ ls (.int z :: st) s v s' L hx hZ hown hnm hret hml hlk hs0 hdec hr X I hL hlen)
        · cases hr
      · obtain rfl := hn.resolve_left Bool.false_ne_true
        split at hr
        · rename_i z hg
          exact Don.step (fun t q => X.ldc2J hx hown (mv hZ (LK.2.2.2.2.2.2.1 _ _ hg)) (g := mkF m pc L (st.map (va (adr + ·)))) rfl hd q) (ihk p l e s₀ m args below meth cd T locs h0 c _ ls (.long z :: st) s v s' L hx hZ hown hnm hret hml hlk hs0 hdec hr X I hL hlen)
        · cases hr
      -- Object's constructor
      · obtain rfl := hn.resolve_left Bool.false_ne_true
        split at hr
        · rename_i r
          split at hr
          · rename_i hg
            obtain ⟨rfl, hg1, hg2⟩ := hg
            obtain ⟨w1, w2, w3⟩ := LK.2.2.2.2.2.2.2.1
            obtain ⟨T', X', q1, st⟩ := initO X hx hZ hown w1 w2 w3 rfl (g := mkF m pc L (.ref adr :: r.map (va (adr + ·)))) rfl hsize rfl hd hg1 (W := cats r) (by show 2 * 0 + _ ≤ _; rw [cats_va]; omega) hg2
            exact Don.step st (ihk p l e s₀ m args below meth cd T' locs h0 c _ ls r s v s' L hx hZ hown hnm hret hml hlk hs0 hdec hr X' (by rw [q1]; exact I) hL hlen)
          · cases hr
        · cases hr
      -- a call
      · obtain rfl := hn.resolve_left Bool.false_ne_true
        split at hr
        · cases hr
        · rename_i m' hm'
          split at hr
          · cases hr
          · rename_i me' hme'
            split at hr
            · rename_i r hst
              split at hr
              · rename_i hg
                obtain ⟨hg0, hg1, hg2, hg3⟩ := hg
                dsimp only at hr
                rw [hme'] at hr
                dsimp only at hr
                obtain ⟨bytes, ps, hcode, hdec', hpar, hpl⟩ := LK.2.2.2.2.2.2.2.2.1 m' me' hme'
                obtain ⟨w1, w2, w3⟩ := LK.2.2.2.2.2.2.2.2.2.1 _ _ hm' _ hme'
                by_cases hla : (layA (Value.ref 0 :: (st.take me'.na).reverse)).length ≤ me'.ml
                · rw [if_pos hla] at hr
                  cases hcl : cexec P f m' me' c 0 (lay (.ref 0 :: (st.take me'.na).reverse) me'.ml) [] s with
                  | none => rw [hcl] at hr; cases hr
                  | some vs =>
                    obtain ⟨w, s1⟩ := vs
                    rw [hcl] at hr
                    have hr' : cexec P f mi me c (pc + 3) ls (w.toList ++ r) s1 = some (v, s') := by cases w <;> exact hr
                    have hM := met_of_CW LK hme' (ih m' me' hme') l hdec' (as := .ref 0 :: (st.take me'.na).reverse) (nd_rev (ρ := id) hg3) hla hcl (fun q => absurd q hg0) I.1 (fun q => absurd q hg0)
                    have hB := backOf (R := cRoom P mi me) (p := p) (e := e) (below := below) (s := s₀) (args := args) (len := 3) (W := cats r) hM hZ hcode LK.1.2 hg1 hg2
                    have hdl : me'.na < st.length := by
                      have := congrArg List.length hst
                      simp at this; omega
                    have hsp : st = st.take me'.na ++ .ref 0 :: r := by rw [← hst, List.take_append_drop]
                    have hcell := I.1.1.cell
                    obtain ⟨cel, hc1, hc2⟩ := hcell
                    have key : ∃ (v' : Option Value) (U : State) (Lc : List Loc), Stand p l e (cRoom P mi me) s₀ m args below meth cd U (locs ++ Lc) (co mi c) (zo P mi c) ∧ QC P Z n0 adr m' c w s1 T.heap v' U.heap Lc ∧
                        Steps p.tables e below (T.setTop (mkF m pc L (st.map (va (adr + ·))))) (U.setTop (mkF m (pc + 3) L (v'.toList ++ r.map (va (adr + ·))))) := by
                      have hsm : st.map (va (adr + ·)) = ((st.take me'.na).reverse.map (va (adr + ·))).reverse ++ .ref adr :: r.map (va (adr + ·)) := by
                        conv => lhs; rw [hsp]
                        simp [va]
                      have hll : ∀ sig, parseMethodDescriptor (yOf P me').desc = some sig → ((st.take me'.na).reverse.map (va (adr + ·))).length = sig.parameters.length := lenOf hpar (by simp [hpl]; omega)
                      have hpre : ∀ vm₁, s₀.WarmedH vm₁ → ((Value.ref adr :: (st.take me'.na).reverse.map (va (adr + ·))).toArray = ((Value.ref 0 :: (st.take me'.na).reverse).map (va (adr + ·))).toArray ∧ (T.setVm vm₁).heap = T.heap ∧ co mi c + (cRoom P m' me').cells ≤ (cRoom P mi me).cells ∧ zo P mi c + (cRoom P m' me').slots ≤ (cRoom P mi me).slots) := fun vm₁ _ => by
                        refine ⟨by simp [va], rfl, ?_, ?_⟩
                        · simp only [co, cRoom, if_neg hg0]
                          have := I.1.2.2.2.2
                          split <;> omega
                        · simp only [zo, cRoom, if_neg hg0]
                          have := zs_le P.al c
                          split <;> omega
                      have hz1 : (cRoom P m' me').cells = 0 := by simp [cRoom, hg0]
                      have hz2 : (cRoom P m' me').slots = 0 := by simp [cRoom, hg0]
                      rcases w3 with w3 | ⟨w3, w4⟩
                      · obtain ⟨v', vm₁, ⟨U, lo, ce, sl⟩, -, X', ⟨Lc, hQ, l1, l2, l3⟩, stp⟩ := privCall X hx (y := yOf P me') hown (mv hZ w1) (mv hZ w2) (nF := nF) (mv hZ hnF) (Cond.privateMethod_at (mvP hZ w3 (args := args))) (mv hZ hcode) LK.2.2.2.2.2.2.2.2.2.2.2.1 hB (g := mkF m pc L (st.map (va (adr + ·)))) rfl hsize hc1 hc2 hll hsm (by show 2 * 0 + _ ≤ _; rw [cats_va]; omega) hd hpre
                        dsimp only [Pt.U, Pt.locs, Pt.cells, Pt.slots] at X' hQ l1 l2 l3 stp
                        subst l1 l2 l3
                        rw [hz1, hz2] at X'
                        exact ⟨v', U, Lc, X', hQ, stp⟩
                      · obtain ⟨cq, kq, qa, qb, qc⟩ := isOf hZ rfl I.1.1
                        obtain ⟨v', vm₁, ⟨U, lo, ce, sl⟩, -, X', ⟨Lc, hQ, l1, l2, l3⟩, stp⟩ := X.virtualBack hx (y := yOf P me') (z := yOf P me') hown (mv hZ w1) (mv hZ w3) (notFace_of_selects (args := #[]) (mv hZ w4)) (mv hZ w4) (mv hZ w2) LK.2.2.2.2.2.2.2.2.2.2.2.1 hB qa qc (g := mkF m pc L (st.map (va (adr + ·)))) rfl hsize (Steps.refl _) hll hsm (by show 2 * 0 + _ ≤ _; rw [cats_va]; omega) hd hpre
                        dsimp only [Pt.U, Pt.locs, Pt.cells, Pt.slots] at X' hQ l1 l2 l3 stp
                        subst l1 l2 l3
                        rw [hz1, hz2] at X'
                        exact ⟨v', U, Lc, X', hQ, stp⟩
                    obtain ⟨v', U, Lc, X', ⟨⟨rfl, hva⟩, hF', hH', hK', hS'⟩, stp⟩ := key
                    rw [if_neg hg0] at hH' hS'
                    refine Don.step (fun t q => stp.trans ?_) (ihk p l e s₀ m args below meth cd U (locs ++ Lc) h0 c _ ls (v'.toList ++ r) s1 v s' L hx hZ hown hnm hret hml hlk hs0 hdec hr' X' ⟨hH', I.2.1.app hF', I.2.2.1.trans hK', by rw [hS']; exact I.2.2.2⟩ hL hlen)
                    rw [List.map_append, hva] at q; exact q
                · rw [if_neg hla] at hr; cases hr
              · cases hr
            · cases hr
      -- the rest
      · split at hr
        · split at hr
          · cases hr
          · rename_i h1 hcf
            split at hr
            · rename_i w hw
              cases hr
              have hcf' : mi = 0 → c = P.al.length := fun q => Classical.byContradiction fun z => hcf ⟨q, z⟩
              have hA : HRep P Z T.heap adr (if mi = 0 then P.al.length else c) s := by
                by_cases q : mi = 0
                · rw [if_pos q, ← hcf' q]; exact I.1
                · rw [if_neg q]; exact I.1
              have hB : Array.size T.heap = if mi = 0 then adr + 1 + P.al.length else Array.size h0 := by
                rw [I.2.2.2]
                by_cases q : mi = 0
                · rw [if_pos q, if_pos q, ← hcf' q]
                · rw [if_neg q, if_neg q]
              have hC : co mi c ≤ (cRoom P mi me).cells := by
                simp only [co, cRoom]
                by_cases q : mi = 0
                · rw [if_pos q, if_pos q, ← hcf' q]; exact Nat.le_refl _
                · rw [if_neg q, if_neg q]; exact Nat.le_refl _
              have hD : zo P mi c ≤ (cRoom P mi me).slots := by
                simp only [zo, cRoom]
                by_cases q : mi = 0
                · rw [if_pos q, if_pos q]; exact zs_le _ _
                · rw [if_neg q, if_neg q]; exact Nat.le_refl _
              exact st_ret X hx hret hlk hw hd hn ⟨⟨rfl, cret_va hw⟩, I.2.1, hA, I.2.2.1, hB⟩ hC hD
            · cases hr
        · split at hr
          · rename_i pc' ls' st' hp
            obtain ⟨L', hL', hLs, st⟩ := pstep_sound X hx hp hd hn hL
            have hlen' : ls'.length = me.ml := by rw [← hL'.1, hLs, hL.1]; exact hlen
            exact Don.step st (ihk p l e s₀ m args below meth cd T locs h0 c _ ls' st' s v s' L' hx hZ hown hnm hret hml hlk hs0 hdec hr X I hL' hlen')
          · cases hr
end Jvm.LM

namespace Jvm.LM
open Sem ClassFile Op Lib Jvm.Stand Jvm.Free Jvm.LawKit Jvm.RoadKit
/-! the law's machine: several objects of the class, and one array of ints that it only reads -/
/-- class name, pool to own static method, pool to the class's method, pool index of the constructor, of the class, number of its fields, constants, methods, room: cells, slots -/
abbrev Lw := String × List (Nat × Nat) × List (Nat × Nat) × Nat × Nat × Nat × List (Nat × Value) × List (Nat × Me) × Nat × Nat
def Lw.nm (Q : Lw) : String := Q.1
def Lw.sx (Q : Lw) : List (Nat × Nat) := Q.2.1
def Lw.vx (Q : Lw) : List (Nat × Nat) := Q.2.2.1
def Lw.ci (Q : Lw) : Nat := Q.2.2.2.1
def Lw.cx (Q : Lw) : Nat := Q.2.2.2.2.1
def Lw.nf (Q : Lw) : Nat := Q.2.2.2.2.2.1
def Lw.kx (Q : Lw) : List (Nat × Value) := Q.2.2.2.2.2.2.1
def Lw.ms (Q : Lw) : List (Nat × Me) := Q.2.2.2.2.2.2.2.1
def Lw.rc (Q : Lw) : Nat := Q.2.2.2.2.2.2.2.2.1
def Lw.rs (Q : Lw) : Nat := Q.2.2.2.2.2.2.2.2.2
/-- the objects, how many are made, whether one more is being made -/
abbrev Wd := (Nat → St) × Nat × Bool
abbrev Sc := Option (Nat × (Nat → Int32))
abbrev Rw := Option (Option Value × Wd)
def nr : List Value → Bool
  | [] => true
  | .int _ :: r => nr r
  | .long _ :: r => nr r
  | _ => false
theorem nr_map {l : List Value} (h : nr l = true) (ρ : Nat → Nat) : l.map (va ρ) = l := by
  induction l with
  | nil => rfl
  | cons v r ih => cases v <;> first | (simp only [nr] at h; simp [va, ih h]; done) | (simp [nr] at h)
theorem nr_nd {l : List Value} (h : nr l = true) : nd l = true := by
  induction l with
  | nil => rfl
  | cons v r ih => cases v <;> first | (simp only [nr] at h; simp [nd, ih h]; done) | (simp [nr] at h)
def uo (w : Nat → St) (o : Nat) (s : St) : Nat → St := fun i => if i = o then s else w i
def lstep {α : Type} (P : Cl) (Q : Lw) (sc : Sc) (mi : Nat) (me : Me) (rt : Option Value → Wd → Option α) (cc : Nat → Nat → List Value → St → Rs) (cl : Nat → List Value → Wd → Rw) (k : Nat → Lv → List Value → Wd → Option α) (i : Instr) (pc : Nat) (ls : Lv) (st : List Value) (w : Wd) : Option α :=
  match i with
  | .iaload => match sc, st with
    | some (n, g), .int j :: .ref 0 :: r => if inb n j then k (pc + 1) ls (.int (g (ix j)) :: r) w else none
    | _, _ => none
  | .arraylength => match sc, st with
    | some (n, _), .ref 0 :: r => k (pc + 1) ls (.int (Int32.ofNat n) :: r) w
    | _, _ => none
  | .ldc x => match asc Q.kx x with | some (.int z) => k (pc + 2) ls (.int z :: st) w | _ => none
  | .ldc2_w x => match asc Q.kx x with | some (.long z) => k (pc + 3) ls (.long z :: st) w | _ => none
  | .new x => if mi = 0 ∧ x = Q.cx ∧ w.2.2 = false ∧ (w.2.1 + 1) * (P.al.length + 1) ≤ Q.rc ∧ (w.2.1 + 1) * (Q.nf + zs P.al P.al.length) ≤ Q.rs then
      k (pc + 3) ls (.ref (w.2.1 + 1) :: st) (uo w.1 w.2.1 s0, w.2.1, true) else none
  | .invokespecial x => match asc P.ms 0 with
    | none => none
    | some me' => match st.drop me'.na with
      | .ref (o + 1) :: r => if x = Q.ci ∧ mi = 0 ∧ o = w.2.1 ∧ w.2.2 = true ∧ me'.rf + 1 ≤ me.rf ∧ cats r + (me'.ml + 11) + me'.rl ≤ me.rl ∧ nr (st.take me'.na) = true ∧ (w.2.1 + 1) * (P.al.length + 1) ≤ Q.rc ∧ (w.2.1 + 1) * (Q.nf + zs P.al P.al.length) ≤ Q.rs then
          (match cc 0 0 (.ref 0 :: (st.take me'.na).reverse) (w.1 o) with
           | some (none, s') => k (pc + 3) ls r (uo w.1 o s', w.2.1 + 1, false)
           | _ => none) else none
      | _ => none
  | .invokevirtual x => match asc Q.vx x with
    | none => none
    | some m' => match asc P.ms m' with
      | none => none
      | some me' => match st.drop me'.na with
        | .ref (o + 1) :: r => if m' ≠ 0 ∧ o < w.2.1 ∧ me'.rf + 1 ≤ me.rf ∧ cats r + (me'.ml + 11) + me'.rl ≤ me.rl ∧ nr (st.take me'.na) = true then
            (match cc m' P.al.length (.ref 0 :: (st.take me'.na).reverse) (w.1 o) with
             | some (none, s') => k (pc + 3) ls r (uo w.1 o s', w.2.1, w.2.2)
             | some (some v, s') => k (pc + 3) ls (v :: r) (uo w.1 o s', w.2.1, w.2.2)
             | none => none) else none
        | _ => none
  | .invokestatic x => match asc Q.sx x with
    | none => none
    | some m' => match asc Q.ms m' with
      | none => none
      | some me' => if m' ≠ 0 ∧ me'.na ≤ st.length ∧ me'.rf + 1 ≤ me.rf ∧ cats (st.drop me'.na) + (me'.ml + 11) + me'.rl ≤ me.rl ∧ nd (st.take me'.na) = true then
          (match cl m' (st.take me'.na).reverse w with
           | some (none, w') => k (pc + 3) ls (st.drop me'.na) w'
           | some (some v, w') => k (pc + 3) ls (v :: st.drop me'.na) w'
           | none => none) else none
  | i => if isRet i = true then (match cret me st i with | some v => rt v w | none => none)
    else match pstep i pc ls st with | some (pc', ls', st') => k pc' ls' st' w | none => none
def lexec (P : Cl) (Q : Lw) (sc : Sc) : Nat → Nat → Me → Nat → Lv → List Value → Wd → Rw
  | 0, _, _, _, _, _, _ => none
  | f + 1, mi, me, pc, ls, st, w => match fetch me.cd pc with
    | none => none
    | some (i, _) => lstep P Q sc mi me (fun v w => some (v, w)) (ccall P f) (fun m' as w => match asc Q.ms m' with | some me' => (if (layA as).length ≤ me'.ml then lexec P Q sc f m' me' 0 (lay as me'.ml) [] w else none) | none => none) (lexec P Q sc f mi me) i pc ls st w
theorem lexec_cnt {P : Cl} {Q : Lw} {sc : Sc} : ∀ f mi me pc ls st w v w', mi ≠ 0 → lexec P Q sc f mi me pc ls st w = some (v, w') → w'.2 = w.2 := by
  intro f
  induction f with
  | zero => intro mi me pc ls st w v w' _ h; cases h
  | succ f ih =>
    intro mi me pc ls st w v w' h0 h
    simp only [lexec] at h
    split at h
    · cases h
    · unfold lstep at h
      split at h
      · split at h
        · split at h
          · exact ih _ _ _ _ _ _ _ _ h0 h
          · cases h
        · cases h
      · split at h
        · exact ih _ _ _ _ _ _ _ _ h0 h
        · cases h
      · split at h
        · exact ih _ _ _ _ _ _ _ _ h0 h
        · cases h
      · split at h
        · exact ih _ _ _ _ _ _ _ _ h0 h
        · cases h
      · split at h
        · rename_i q; exact absurd q.1 h0
        · cases h
      · split at h
        · cases h
        · split at h
          · split at h
            · rename_i q; exact absurd q.2.1 h0
            · cases h
          · cases h
      · split at h
        · cases h
        · split at h
          · cases h
          · split at h
            · split at h
              · split at h
                · exact (ih _ _ _ _ _ _ _ _ h0 h).trans rfl
                · exact (ih _ _ _ _ _ _ _ _ h0 h).trans rfl
                · cases h
              · cases h
            · cases h
      · split at h
        · cases h
        · split at h
          · cases h
          · rename_i me' hme'
            split at h
            · rename_i hg
              dsimp only at h
              rw [hme'] at h
              dsimp only at h
              split at h
              · rename_i w2 hc
                split at hc
                · exact (ih _ _ _ _ _ _ _ _ h0 h).trans (ih _ _ _ _ _ _ _ _ hg.1 hc)
                · cases hc
              · rename_i u w2 hc
                split at hc
                · exact (ih _ _ _ _ _ _ _ _ h0 h).trans (ih _ _ _ _ _ _ _ _ hg.1 hc)
                · cases hc
              · cases h
            · cases h
      · split at h
        · split at h
          · cases h; rfl
          · cases h
        · split at h
          · exact ih _ _ _ _ _ _ _ _ h0 h
          · cases h
def lcall (P : Cl) (Q : Lw) (sc : Sc) (f m' : Nat) (as : List Value) (w : Wd) : Rw := match asc Q.ms m' with | some me' => (if (layA as).length ≤ me'.ml then lexec P Q sc f m' me' 0 (lay as me'.ml) [] w else none) | none => none
def zOf (Q : Lw) (me : Me) : MethodName := ⟨Q.nm, me.nm, me.ds⟩
def LinkL (P : Cl) (Q : Lw) (Z : State) (a0 : Array Value) : Prop :=
  ((Cond.classLink Q.nm Q.cx P.nm).before a0 Z = true ∧ (Cond.instantiable P.nm Q.nf).before a0 Z = true) ∧
  (∀ me, asc P.ms 0 = some me → (Cond.methodLink Q.nm Q.ci (yOf P me)).before a0 Z = true ∧ (Cond.instanceMethod (yOf P me)).before a0 Z = true ∧ me.rt = 0) ∧
  (∀ x m', asc Q.vx x = some m' → ∀ me, asc P.ms m' = some me → (Cond.methodLink Q.nm x (yOf P me)).before a0 Z = true ∧ (Cond.declares (yOf P me)).before a0 Z = true ∧ (Cond.instanceMethod (yOf P me)).before a0 Z = true ∧ (Cond.selects P.nm (yOf P me) (yOf P me)).before a0 Z = true) ∧
  (∀ x m', asc Q.sx x = some m' → ∀ me, asc Q.ms m' = some me → (Cond.methodLink Q.nm x (zOf Q me)).before a0 Z = true ∧ (Cond.static (zOf Q me)).before a0 Z = true ∧ (Cond.initialized Q.nm).before a0 Z = true) ∧
  (∀ x v, asc Q.kx x = some v → match v with
    | .int z => (Cond.constant Q.nm x z).before a0 Z = true
    | .long z => (Cond.constantLong Q.nm x z).before a0 Z = true
    | _ => True) ∧
  (∀ mi me, asc Q.ms mi = some me → mi ≠ 0 → ∃ (bytes : ByteArray) (ps : List FieldType), (Cond.code (zOf Q me) bytes me.ml (retOf me.rt)).before a0 Z = true ∧
    (∀ pc i n, fetch me.cd pc = some (i, n) → decode bytes pc = .ok (i, n) ∧ (isSw i = true ∨ n = ilen i)) ∧ parseMethodDescriptor me.ds = some ⟨ps, retOf me.rt⟩ ∧ ps.length = me.na) ∧
  plainName Q.nm = true ∧ (Q.nm ≠ "java/lang/invoke/MethodHandle" ∧ Q.nm ≠ "java/lang/invoke/VarHandle")
def rho (a n0 K : Nat) : Nat → Nat
  | 0 => a
  | o + 1 => n0 + o * K
def SRep (Z : State) (h : Heap) (a n0 : Nat) (sc : Sc) : Prop :=
  match sc with
  | none => True
  | some (n, g) => a < n0 ∧ ∃ cl : Cell, Arr Z h a cl .int ∧ cl.slots.size = n ∧ ∀ i, i < n → cl.slots[i]? = some (.int (g i))
def LRep (P : Cl) (Z : State) (h : Heap) (a n0 : Nat) (sc : Sc) (w : Wd) : Prop :=
  SRep Z h a n0 sc ∧ (∀ o, o < w.2.1 → HRep P Z h (n0 + o * (P.al.length + 1)) P.al.length (w.1 o)) ∧
  (w.2.2 = true → HRep P Z h (n0 + w.2.1 * (P.al.length + 1)) 0 (w.1 w.2.1)) ∧ h.size = n0 + w.2.1 * (P.al.length + 1) + (if w.2.2 = true then 1 else 0)
def lRoom (Q : Lw) (mi : Nat) (me : Me) : Room := { frames := me.rf, cells := if mi = 0 then Q.rc else 0, slots := if mi = 0 then Q.rs else 0, locals := me.rl }
def QL (P : Cl) (Z : State) (a n0 : Nat) (sc : Sc) (v : Option Value) (w' : Wd) (u : Option Value) (h : Heap) (L : List Loc) : Prop :=
  (u = v ∧ ∀ ρ, u.toList.map (va ρ) = u.toList) ∧ Fr n0 L ∧ LRep P Z h a n0 sc w'
def lco (P : Cl) (mi : Nat) (w : Wd) : Nat := if mi = 0 then w.2.1 * (P.al.length + 1) + (if w.2.2 = true then 1 else 0) else 0
def lzo (P : Cl) (Q : Lw) (mi : Nat) (w : Wd) : Nat := if mi = 0 then w.2.1 * (Q.nf + zs P.al P.al.length) + (if w.2.2 = true then Q.nf else 0) else 0
def LW (P : Cl) (Q : Lw) (sc : Sc) (Z : State) (a n0 f mi : Nat) (me : Me) : Prop :=
  ∀ (p : Program) (l : Launch) (e : Env) (s₀ : State) (m : MethodId) (args : Array Value) (below : List Frame) (meth : Method) (cd : Code) (T : State) (locs : List Loc) (pc : Nat) (ls : Lv) (st : List Value) (w : Wd) (v : Option Value) (w' : Wd) (L : Array Slot),
    p.tables.exec = Jvm.exec → Z.Warmed39 s₀.vm → s₀.vm.findClass Q.nm = some m.cls → meth.sig.returnType = retOf me.rt → cd.maxLocals = me.ml → meth.locks = false → (mi = 0 → s₀.heap.size = n0) →
    (∀ pc i n, fetch me.cd pc = some (i, n) → decode cd.code pc = .ok (i, n) ∧ (isSw i = true ∨ n = ilen i)) →
    lexec P Q sc f mi me pc ls st w = some (v, w') →
    Stand p l e (lRoom Q mi me) s₀ m args below meth cd T locs (lco P mi w) (lzo P Q mi w) → w.2.1 * (P.al.length + 1) + (if w.2.2 = true then 1 else 0) ≤ (lRoom Q 0 me).cells → w.2.1 * (Q.nf + zs P.al P.al.length) + (if w.2.2 = true then Q.nf else 0) ≤ (lRoom Q 0 me).slots →
    LRep P Z T.heap a n0 sc w → Fr n0 locs → LR (rho a n0 (P.al.length + 1)) ls L → ls.length = me.ml →
    Don p e below s₀ (lRoom Q mi me) (QL P Z a n0 sc v w') (T.setTop (mkF m pc L (st.map (va (rho a n0 (P.al.length + 1))))))
theorem met_of_LW {P : Cl} {Q : Lw} {sc : Sc} {Z : State} {a0 : Array Value} (LL : LinkL P Q Z a0) {a n0 f mi : Nat} {me : Me} (hW : LW P Q sc Z a n0 f mi me) (hmi : mi ≠ 0) (l : Launch) {bytes : ByteArray}
    (hdec : ∀ pc i n, fetch me.cd pc = some (i, n) → decode bytes pc = .ok (i, n) ∧ (isSw i = true ∨ n = ilen i))
    {as : List Value} (hd : ∀ v ∈ as, ∀ x, v ≠ .double x) (hlen : (layA as).length ≤ me.ml) {w w' : Wd} {v : Option Value} {h : Heap} (hr : lexec P Q sc f mi me 0 (lay as me.ml) [] w = some (v, w'))
    (hc1 : w.2.1 * (P.al.length + 1) + (if w.2.2 = true then 1 else 0) ≤ Q.rc) (hc2 : w.2.1 * (Q.nf + zs P.al P.al.length) + (if w.2.2 = true then Q.nf else 0) ≤ Q.rs)
    (H : LRep P Z h a n0 sc w) :
    MetFree l (zOf Q me) (head1 [Cond.code (zOf Q me) bytes me.ml (retOf me.rt)] (lRoom Q mi me)) (fun b U => b = (as.map (va (rho a n0 (P.al.length + 1)))).toArray ∧ Z.Warmed39 U.vm ∧ U.heap = h) (fun _ _ _ _ _ => True)
      (fun _ U o U' => ∃ u L, o = .returned u ∧ QL P Z a n0 sc v w' u U'.heap L ∧ FrameEnd U o U' L (lRoom Q mi me).cells (lRoom Q mi me).slots) := by
  refine MetFree.of_bodySF (plainFor_of_name LL.2.2.2.2.2.2.1) hisR ?_
  intro p e s₀ m args below meth cd s₁ Bd hml hP hK
  obtain ⟨rfl, hZ, hh⟩ := hP
  have e0 : s₁.heap = h := by rw [← hh, Bd.state]; rfl
  have X0 : Stand p l e (lRoom Q mi me) s₀ m _ below meth cd s₁ [] 0 0 := Stand.of_body Bd
  have hown : s₀.vm.findClass Q.nm = some m.cls := findClass_of_methodNamed Bd.named
  have hk0 : lco P mi w = 0 := by simp [lco, hmi]
  have hz0 : lzo P Q mi w = 0 := by simp [lzo, hmi]
  have D := hW p l e s₀ m _ below meth cd s₁ [] 0 (lay as me.ml) [] w v w' _ Bd.exec hZ hown Bd.returns hml Bd.notSynchronized (fun q => absurd q hmi)
    (fun pc i n q => by rw [Bd.bytes]; exact hdec pc i n q) hr (by rw [hk0, hz0]; exact X0) (by simpa [lRoom] using hc1) (by simpa [lRoom] using hc2) (by rw [e0]; exact H) (Fr.nil n0) (lay_LR hd hlen) (lay_len hlen)
  obtain ⟨s₂, o, a1, a2, a3, u, L, a4, a5, a6⟩ := D
  exact ⟨s₂, o, a1, a2, a3, u, L, a4, a5, a6⟩
end Jvm.LM

namespace Jvm.LM
open Sem ClassFile Op Lib Jvm.Stand Jvm.Free Jvm.LawKit Jvm.RoadKit
theorem rng {a b K : Nat} (h : a < b) : a * K + K ≤ b * K := by
  have := Nat.mul_le_mul_right K (show a + 1 ≤ b from h)
  rw [Nat.succ_mul] at this; exact this
theorem SRep.congr {Z : State} {h h' : Heap} {a n0 : Nat} {sc : Sc} (H : SRep Z h a n0 sc) (e : ∀ x, x < n0 → h'[x]? = h[x]?) : SRep Z h' a n0 sc := by
  unfold SRep at H ⊢
  split
  · trivial
  · obtain ⟨h1, cl, ⟨q1, q2⟩, q3⟩ := H
    exact ⟨h1, cl, ⟨by rw [e a h1]; exact q1, q2⟩, q3⟩
/-- one object has moved, the others stand -/
theorem LRep.call {P : Cl} {Z : State} {h h' : Heap} {a n0 o : Nat} {sc : Sc} {w : Wd} {s' : St} (H : LRep P Z h a n0 sc w) (ho : o < w.2.1) (K : Kp h h' (n0 + o * (P.al.length + 1)) P.al.length) (hs : h'.size = h.size) (H' : HRep P Z h' (n0 + o * (P.al.length + 1)) P.al.length s') :
    LRep P Z h' a n0 sc (uo w.1 o s', w.2.1, w.2.2) := by
  obtain ⟨h1, h2, h3, h4⟩ := H
  refine ⟨h1.congr fun x hx => K x (Or.inl (by omega)), fun o' ho' => ?_, fun q => ?_, by rw [hs]; exact h4⟩
  · by_cases e : o' = o
    · subst e; simpa [uo] using H'
    · have := (h2 o' ho').congr (h' := h') fun x hx1 hx2 => K x (by
        rcases Nat.lt_or_gt_of_ne e with q | q
        · have := rng (K := P.al.length + 1) q; omega
        · have := rng (K := P.al.length + 1) q; omega)
      simpa [uo, e] using this
  · have e : w.2.1 ≠ o := by omega
    have := (h3 q).congr (h' := h') fun x hx1 hx2 => K x (by have := rng (K := P.al.length + 1) ho; omega)
    simpa [uo, e] using this
theorem ar1 {x k r y : Nat} (e : y = x + (k + 1)) (h : y ≤ r) : x + 1 + k ≤ r := by omega
theorem ar3 {x k y : Nat} (h : y = x + (k + 1)) : y + 0 = x + 1 + k := by omega
theorem ar4 {x f z y : Nat} (h : y = x + (f + z)) : y + 0 = x + f + z := by omega
theorem ar5 {x f z r y : Nat} (e : y = x + (f + z)) (h : y ≤ r) : x + f + z ≤ r := by omega
theorem ar6 {n x k y : Nat} (h : y = x + (k + 1)) : n + x + 1 + k = n + y + 0 := by omega
theorem lwalk {P : Cl} {Q : Lw} {sc : Sc} {Z : State} {a0 : Array Value} (LK : LinkC P Z a0) (LL : LinkL P Q Z a0) {a n0 : Nat} : ∀ f mi me, asc Q.ms mi = some me → LW P Q sc Z a n0 f mi me := by
  intro f
  induction f with
  | zero =>
    intro mi me hme p l e s₀ m args below meth cd T locs pc ls st w v w' L hx hZ hown hret hml hlk hs0 hdec hr
    cases hr
  | succ f ih =>
    intro mi me hme p l e s₀ m args below meth cd T locs pc ls st w v w' L hx hZ hown hret hml hlk hs0 hdec hr X hc1 hc2 I hFr hL hlen
    simp only [lexec] at hr
    split at hr
    · cases hr
    · rename_i i n hf
      obtain ⟨hd, hn⟩ := hdec pc i n hf
      have ihk := ih mi me hme
      have hsize : L.size = cd.maxLocals := by rw [hL.1, hlen, hml]
      unfold lstep at hr
      split at hr
      -- iaload
      · obtain rfl := hn.resolve_left Bool.false_ne_true
        split at hr
        · rename_i N g j r
          split at hr
          · rename_i hin
            obtain ⟨ha, cl, A, hN, hv⟩ : SRep Z T.heap a n0 (some (N, g)) := I.1
            refine Don.step (fun t q => ?_) (ihk p l e s₀ m args below meth cd T locs _ ls (.int (g (ix j)) :: r) w v w' L hx hZ hown hret hml hlk hs0 hdec hr X hc1 hc2 I hFr hL hlen)
            exact X.iaload hx A.1 (State.isArrayOf_alike hZ.alike A.2.1) A.2.2 (by rw [hN]; exact inb_not hin) (hv (ix j) (inb_ix hin)) (g := mkF m pc L (.int j :: .ref a :: r.map (va (rho a n0 (P.al.length + 1))))) rfl rfl hd t q
          · cases hr
        · cases hr
      -- arraylength
      · obtain rfl := hn.resolve_left Bool.false_ne_true
        split at hr
        · rename_i N g r
          obtain ⟨ha, cl, A, hN, hv⟩ : SRep Z T.heap a n0 (some (N, g)) := I.1
          refine Don.step (fun t q => ?_) (ihk p l e s₀ m args below meth cd T locs _ ls (.int (Int32.ofNat N) :: r) w v w' L hx hZ hown hret hml hlk hs0 hdec hr X hc1 hc2 I hFr hL hlen)
          exact X.arraylength hx A.1 (State.isArrayOf_alike hZ.alike A.2.1) (g := mkF m pc L (.ref a :: r.map (va (rho a n0 (P.al.length + 1))))) rfl rfl hd t (by rw [hN]; exact q)
        · cases hr
      -- constants
      · obtain rfl := hn.resolve_left Bool.false_ne_true
        split at hr
        · rename_i z hg
          exact Don.step (fun t q => X.ldcI hx hown (mv hZ (LL.2.2.2.2.1 _ _ hg)) (g := mkF m pc L (st.map (va (rho a n0 (P.al.length + 1))))) rfl hd q) (ihk p l e s₀ m args below meth cd T locs _ ls (.int z :: st) w v w' L hx hZ hown hret hml hlk hs0 hdec hr X hc1 hc2 I hFr hL hlen)
        · cases hr
      · obtain rfl := hn.resolve_left Bool.false_ne_true
        split at hr
        · rename_i z hg
          exact Don.step (fun t q => X.ldc2J hx hown (mv hZ (LL.2.2.2.2.1 _ _ hg)) (g := mkF m pc L (st.map (va (rho a n0 (P.al.length + 1))))) rfl hd q) (ihk p l e s₀ m args below meth cd T locs _ ls (.long z :: st) w v w' L hx hZ hown hret hml hlk hs0 hdec hr X hc1 hc2 I hFr hL hlen)
        · cases hr
      -- new
      · obtain rfl := hn.resolve_left Bool.false_ne_true
        split at hr
        · rename_i hg
          obtain ⟨rfl, rfl, hp, hg1, hg2⟩ := hg
          obtain ⟨os, cnt, pend⟩ := w
          dsimp only at hp hg1 hg2 hr
          subst hp
          have hk : lco P 0 (os, cnt, false) = cnt * (P.al.length + 1) := by simp [lco]
          have hz : lzo P Q 0 (os, cnt, false) = cnt * (Q.nf + zs P.al P.al.length) := by simp [lzo]
          have m1 : (cnt + 1) * (P.al.length + 1) = cnt * (P.al.length + 1) + (P.al.length + 1) := Nat.succ_mul ..
          have m2 : (cnt + 1) * (Q.nf + zs P.al P.al.length) = cnt * (Q.nf + zs P.al P.al.length) + (Q.nf + zs P.al P.al.length) := Nat.succ_mul ..
          rw [hk, hz] at X
          obtain ⟨T', h', X', q1, E, A, D, -, st1⟩ := newO X hx hZ hown LL.1.1 LL.1.2 LK.1.2 rfl (g := mkF m pc L (st.map (va (rho a n0 (P.al.length + 1))))) rfl hd (by simp only [lRoom, if_true]; omega) (by simp only [lRoom, if_true]; omega)
          obtain ⟨i1, i2, i3, i4⟩ := I
          have hsz : T.heap.size = n0 + cnt * (P.al.length + 1) := by simpa using i4
          have hsz' : h'.size = n0 + cnt * (P.al.length + 1) + 1 := by
            have g1 : T'.heap.size ≤ s₀.heap.size + (cnt * (P.al.length + 1) + 1) := X'.heapSize
            have g2 : T.heap.size < Array.size h' := A.lt
            rw [q1, hs0 rfl] at g1
            rw [hsz] at g2
            omega
          have same : ∀ x, x < T.heap.size → h'[x]? = T.heap[x]? := fun x hx => by
            obtain ⟨cc, hcc⟩ : ∃ cc, T.heap[x]? = some cc := ⟨T.heap[x], Array.getElem?_eq_getElem hx⟩
            rw [hcc]; exact E.2 _ _ hcc
          have I' : LRep P Z T'.heap a n0 sc (uo os cnt s0, cnt, true) := by
            rw [q1]
            refine ⟨i1.congr fun x hx => same x (by omega), fun o ho => ?_, fun _ => ?_, by simpa using hsz'⟩
            · have := (i2 o ho).congr (h' := h') fun x hx1 hx2 => same x (by have := rng (K := P.al.length + 1) (show o < cnt from ho); omega)
              simpa [uo, show o ≠ cnt from Nat.ne_of_lt ho] using this
            · simp only [uo, if_true]
              rw [hsz] at A D
              refine ⟨A, fun k fe hk => ?_, fun j tt N hj hc => absurd hc (Nat.not_lt_zero _), fun j i hj => ⟨rfl, rfl⟩, Nat.zero_le _⟩
              have q := D (laid_of LK hk) (LK.2.2.2.1 k fe hk)
              have e2 : Fval (n0 + cnt * (P.al.length + 1)) 0 s0 k fe = defaultValue (fkTy P fe.2.2.1) := by
                simp only [Fval]; split
                · rename_i e3; rw [e3]; rfl
                · rename_i e3; rw [e3]; rfl
                · rename_i e3; rw [e3]; rfl
                · rename_i e3; rw [e3]; rfl
              rw [e2]; exact q
          refine Don.step (fun t q => st1 t ?_) (ihk p l e s₀ m args below meth cd T' locs _ ls (.ref (cnt + 1) :: st) _ v w' L hx hZ hown hret hml hlk hs0 hdec hr (by simpa [lco, lzo] using X') (by simp only [lRoom, if_true]; omega) (by simp only [lRoom, if_true]; omega) I' hFr hL hlen)
          rw [hsz]; exact q
        · cases hr
      -- the constructor
      · obtain rfl := hn.resolve_left Bool.false_ne_true
        split at hr
        · cases hr
        · rename_i me' hme'
          split at hr
          · rename_i o r hst
            split at hr
            · rename_i hg
              obtain ⟨rfl, rfl, hgo, hp, hg1, hg2, hg3, hg4, hg5⟩ := hg
              obtain ⟨os, cnt, pend⟩ := w
              dsimp only at hgo hp hg1 hg2 hr hg4 hg5
              subst hp hgo
              obtain ⟨bytes, ps, hcode, hdec', hpar, hpl⟩ := LK.2.2.2.2.2.2.2.2.1 0 me' hme'
              obtain ⟨w1, w2, hrt⟩ := LL.2.1 me' hme'
              have hcode' := hcode
              rw [hrt] at hcode'
              have hini := LK.2.2.2.2.2.2.2.2.2.2.2.2 me' hme'
              have m1 : (o + 1) * (P.al.length + 1) = o * (P.al.length + 1) + (P.al.length + 1) := Nat.succ_mul ..
              have m2 : (o + 1) * (Q.nf + zs P.al P.al.length) = o * (Q.nf + zs P.al P.al.length) + (Q.nf + zs P.al P.al.length) := Nat.succ_mul ..
              simp only [ccall, hme'] at hr
              by_cases hla : (layA (Value.ref 0 :: (st.take me'.na).reverse)).length ≤ me'.ml
              · rw [if_pos hla] at hr
                cases hcl : cexec P f 0 me' 0 0 (lay (.ref 0 :: (st.take me'.na).reverse) me'.ml) [] (os o) with
                | none => rw [hcl] at hr; cases hr
                | some vs =>
                  obtain ⟨u, s1⟩ := vs
                  rw [hcl] at hr
                  cases u with
                  | some u => cases hr
                  | none =>
                    dsimp only at hr
                    obtain ⟨i1, i2, i3, i4⟩ := I
                    have hsz : T.heap.size = n0 + o * (P.al.length + 1) + 1 := by simpa using i4
                    have hM := met_of_CW LK hme' (cwalk LK (n0 := n0) (adr := n0 + o * (P.al.length + 1)) (Nat.le_add_right _ _) f 0 me' hme') l hdec' (as := .ref 0 :: (st.take me'.na).reverse) (nd_rev (ρ := id) (nr_nd hg3)) hla hcl (fun _ => rfl) (i3 rfl) (fun _ => hsz)
                    have hB := backOf (R := lRoom Q 0 me) (p := p) (e := e) (below := below) (s := s₀) (args := args) (len := 3) (W := cats r) hM hZ hcode LK.1.2 hg1 hg2
                    have hdl : me'.na < st.length := by
                      have := congrArg List.length hst
                      simp at this; omega
                    have hsp : st = st.take me'.na ++ .ref (o + 1) :: r := by rw [← hst, List.take_append_drop]
                    have hrv : ∀ ρ : Nat → Nat, (st.take me'.na).reverse.map (va ρ) = (st.take me'.na).reverse := fun ρ => by rw [List.map_reverse, nr_map hg3]
                    have hsm : st.map (va (rho a n0 (P.al.length + 1))) = ((st.take me'.na).reverse).reverse ++ .ref (n0 + o * (P.al.length + 1)) :: r.map (va (rho a n0 (P.al.length + 1))) := by
                      conv => lhs; rw [hsp]
                      rw [List.map_append, nr_map hg3]; simp [va, rho]
                    have hll : ∀ sig, parseMethodDescriptor (yOf P me').desc = some sig → ((st.take me'.na).reverse).length = sig.parameters.length := lenOf hpar (by simp [hpl]; omega)
                    have hk : lco P 0 (os, o, true) = o * (P.al.length + 1) + 1 := by simp [lco]
                    have hz : lzo P Q 0 (os, o, true) = o * (Q.nf + zs P.al P.al.length) + Q.nf := by simp [lzo]
                    rw [hk, hz] at X
                    have hpre : ∀ vm₁, s₀.WarmedH vm₁ → ((Value.ref (n0 + o * (P.al.length + 1)) :: (st.take me'.na).reverse).toArray = ((Value.ref 0 :: (st.take me'.na).reverse).map (va ((n0 + o * (P.al.length + 1)) + ·))).toArray ∧ (T.setVm vm₁).heap = T.heap ∧ o * (P.al.length + 1) + 1 + (cRoom P 0 me').cells ≤ (lRoom Q 0 me).cells ∧ o * (Q.nf + zs P.al P.al.length) + Q.nf + (cRoom P 0 me').slots ≤ (lRoom Q 0 me).slots) := fun vm₁ _ => by
                      refine ⟨by rw [List.map_cons, hrv]; rfl, rfl, ?_, ?_⟩
                      · show o * (P.al.length + 1) + 1 + P.al.length ≤ Q.rc
                        exact ar1 m1 hg4
                      · show o * (Q.nf + zs P.al P.al.length) + Q.nf + zs P.al P.al.length ≤ Q.rs
                        exact ar5 m2 hg5
                    obtain ⟨v', vm₁, ⟨U, lo, ce, sl⟩, -, X', ⟨Lc, hQ, l1, l2, l3⟩, stp⟩ := X.specialBack hx (y := yOf P me') hini hown (mv hZ w1) (mv hZ w2) (mv hZ hcode') LK.2.2.2.2.2.2.2.2.2.2.2.1 hB (g := mkF m pc L (st.map (va (rho a n0 (P.al.length + 1))))) rfl hsize (Steps.refl _) hll hsm (by show 2 * 0 + _ ≤ _; rw [cats_va]; omega) hd hpre
                    dsimp only [Pt.U, Pt.locs, Pt.cells, Pt.slots] at X' hQ l1 l2 l3 stp
                    subst l1 l2 l3
                    obtain ⟨⟨rfl, -⟩, hF', hH', hK', hS'⟩ := hQ
                    rw [if_pos rfl] at hH' hS'
                    have I' : LRep P Z U.heap a n0 sc (uo os o s1, o + 1, false) := by
                      refine ⟨i1.congr fun x hx => hK' x (Or.inl (by omega)), fun o' ho' => ?_, fun q => by simp at q, by rw [hS']; show n0 + o * (P.al.length + 1) + 1 + P.al.length = n0 + (o + 1) * (P.al.length + 1) + 0; exact ar6 m1⟩
                      by_cases e2 : o' = o
                      · subst e2; simpa [uo] using hH'
                      · have ho2 : o' < o := by have : o' < o + 1 := ho'; omega
                        have := (i2 o' ho2).congr (h' := U.heap) fun x hx1 hx2 => hK' x (by have := rng (K := P.al.length + 1) ho2; omega)
                        simpa [uo, e2] using this
                    refine Don.step (fun t q => stp.trans q) (ihk p l e s₀ m args below meth cd U (locs ++ Lc) _ ls r _ v w' L hx hZ hown hret hml hlk hs0 hdec hr ?_ (by show (o + 1) * (P.al.length + 1) + 0 ≤ Q.rc; omega) (by show (o + 1) * (Q.nf + zs P.al P.al.length) + 0 ≤ Q.rs; omega) I' (hFr.app hF') hL hlen)
                    have h1 : lco P 0 (uo os o s1, o + 1, false) = o * (P.al.length + 1) + 1 + (cRoom P 0 me').cells := by
                      show (o + 1) * (P.al.length + 1) + 0 = o * (P.al.length + 1) + 1 + P.al.length
                      exact ar3 m1
                    have h2 : lzo P Q 0 (uo os o s1, o + 1, false) = o * (Q.nf + zs P.al P.al.length) + Q.nf + (cRoom P 0 me').slots := by
                      show (o + 1) * (Q.nf + zs P.al P.al.length) + 0 = o * (Q.nf + zs P.al P.al.length) + Q.nf + zs P.al P.al.length
                      exact ar4 m2
                    rw [h1, h2]; exact X'
              · rw [if_neg hla] at hr; cases hr
            · cases hr
          · cases hr
      -- a method of the class
      · obtain rfl := hn.resolve_left Bool.false_ne_true
        split at hr
        · cases hr
        · rename_i m' hm'
          split at hr
          · cases hr
          · rename_i me' hme'
            split at hr
            · rename_i o r hst
              split at hr
              · rename_i hg
                obtain ⟨hg0, hgo, hg1, hg2, hg3⟩ := hg
                obtain ⟨bytes, ps, hcode, hdec', hpar, hpl⟩ := LK.2.2.2.2.2.2.2.2.1 m' me' hme'
                obtain ⟨w1, w2, w3, w4⟩ := LL.2.2.1 _ _ hm' me' hme'
                simp only [ccall, hme'] at hr
                by_cases hla : (layA (Value.ref 0 :: (st.take me'.na).reverse)).length ≤ me'.ml
                · rw [if_pos hla] at hr
                  cases hcl : cexec P f m' me' P.al.length 0 (lay (.ref 0 :: (st.take me'.na).reverse) me'.ml) [] (w.1 o) with
                  | none => rw [hcl] at hr; cases hr
                  | some vs =>
                    obtain ⟨u, s1⟩ := vs
                    rw [hcl] at hr
                    have hr' : lexec P Q sc f mi me (pc + 3) ls (u.toList ++ r) (uo w.1 o s1, w.2.1, w.2.2) = some (v, w') := by cases u <;> exact hr
                    have hM := met_of_CW LK hme' (cwalk LK (n0 := n0) (adr := n0 + o * (P.al.length + 1)) (Nat.le_add_right _ _) f m' me' hme') l hdec' (as := .ref 0 :: (st.take me'.na).reverse) (nd_rev (ρ := id) (nr_nd hg3)) hla hcl (fun q => absurd q hg0) (I.2.1 o hgo) (fun q => absurd q hg0)
                    have hB := backOf (R := lRoom Q mi me) (p := p) (e := e) (below := below) (s := s₀) (args := args) (len := 3) (W := cats r) hM hZ hcode LK.1.2 hg1 hg2
                    have hdl : me'.na < st.length := by
                      have := congrArg List.length hst
                      simp at this; omega
                    have hsp : st = st.take me'.na ++ .ref (o + 1) :: r := by rw [← hst, List.take_append_drop]
                    have hrv : ∀ ρ : Nat → Nat, (st.take me'.na).reverse.map (va ρ) = (st.take me'.na).reverse := fun ρ => by rw [List.map_reverse, nr_map hg3]
                    have hsm : st.map (va (rho a n0 (P.al.length + 1))) = ((st.take me'.na).reverse).reverse ++ .ref (n0 + o * (P.al.length + 1)) :: r.map (va (rho a n0 (P.al.length + 1))) := by
                      conv => lhs; rw [hsp]
                      rw [List.map_append, nr_map hg3]; simp [va, rho]
                    have hll : ∀ sig, parseMethodDescriptor (yOf P me').desc = some sig → ((st.take me'.na).reverse).length = sig.parameters.length := lenOf hpar (by simp [hpl]; omega)
                    have hz1 : (cRoom P m' me').cells = 0 := by simp [cRoom, hg0]
                    have hz2 : (cRoom P m' me').slots = 0 := by simp [cRoom, hg0]
                    have hpre : ∀ vm₁, s₀.WarmedH vm₁ → ((Value.ref (n0 + o * (P.al.length + 1)) :: (st.take me'.na).reverse).toArray = ((Value.ref 0 :: (st.take me'.na).reverse).map (va ((n0 + o * (P.al.length + 1)) + ·))).toArray ∧ (T.setVm vm₁).heap = T.heap ∧ lco P mi w + (cRoom P m' me').cells ≤ (lRoom Q mi me).cells ∧ lzo P Q mi w + (cRoom P m' me').slots ≤ (lRoom Q mi me).slots) := fun vm₁ _ => by
                      refine ⟨by rw [List.map_cons, hrv]; rfl, rfl, ?_, ?_⟩
                      · rw [hz1]; simp only [lco, lRoom] at *; split
                        · simpa using hc1
                        · exact Nat.le_refl _
                      · rw [hz2]; simp only [lzo, lRoom] at *; split
                        · simpa using hc2
                        · exact Nat.le_refl _
                    obtain ⟨cq, kq, qa, qb, qc⟩ := isOf hZ rfl (I.2.1 o hgo).1
                    obtain ⟨v', vm₁, ⟨U, lo, ce, sl⟩, -, X', ⟨Lc, hQ, l1, l2, l3⟩, stp⟩ := X.virtualBack hx (y := yOf P me') (z := yOf P me') hown (mv hZ w1) (mv hZ w2) (notFace_of_selects (args := #[]) (mv hZ w4)) (mv hZ w4) (mv hZ w3) LK.2.2.2.2.2.2.2.2.2.2.2.1 hB qa qc (g := mkF m pc L (st.map (va (rho a n0 (P.al.length + 1))))) rfl hsize (Steps.refl _) hll hsm (by show 2 * 0 + _ ≤ _; rw [cats_va]; omega) hd hpre
                    dsimp only [Pt.U, Pt.locs, Pt.cells, Pt.slots] at X' hQ l1 l2 l3 stp
                    subst l1 l2 l3
                    obtain ⟨⟨rfl, hva⟩, hF', hH', hK', hS'⟩ := hQ
                    rw [if_neg hg0] at hH' hS'
                    rw [hz1, hz2] at X'
                    refine Don.step (fun t q => stp.trans ?_) (ihk p l e s₀ m args below meth cd U (locs ++ Lc) _ ls (v'.toList ++ r) _ v w' L hx hZ hown hret hml hlk hs0 hdec hr' X' hc1 hc2 (I.call hgo hK' hS' hH') (hFr.app hF') hL hlen)
                    rw [List.map_append, hva] at q; exact q
                · rw [if_neg hla] at hr; cases hr
              · cases hr
            · cases hr
      -- a static method of the law
      · obtain rfl := hn.resolve_left Bool.false_ne_true
        split at hr
        · cases hr
        · rename_i m' hm'
          split at hr
          · cases hr
          · rename_i me' hme'
            split at hr
            · rename_i hg
              obtain ⟨hg0, hgn, hg1, hg2, hg3⟩ := hg
              obtain ⟨bytes, ps, hcode, hdec', hpar, hpl⟩ := LL.2.2.2.2.2.1 m' me' hme' hg0
              obtain ⟨w1, w2, w3⟩ := LL.2.2.2.1 _ _ hm' me' hme'
              dsimp only at hr
              rw [hme'] at hr
              dsimp only at hr
              by_cases hla : (layA (st.take me'.na).reverse).length ≤ me'.ml
              · rw [if_pos hla] at hr
                cases hcl : lexec P Q sc f m' me' 0 (lay (st.take me'.na).reverse me'.ml) [] w with
                | none => rw [hcl] at hr; cases hr
                | some vs =>
                  obtain ⟨u, w2'⟩ := vs
                  rw [hcl] at hr
                  have hr' : lexec P Q sc f mi me (pc + 3) ls (u.toList ++ st.drop me'.na) w2' = some (v, w') := by cases u <;> exact hr
                  have hndv : ∀ v ∈ (st.take me'.na).reverse, ∀ x, v ≠ .double x := fun v hv x e => nd_spec hg3 v (List.mem_reverse.mp hv) x e
                  have hM := met_of_LW LL (ih m' me' hme') hg0 l hdec' (as := (st.take me'.na).reverse) hndv hla hcl (by simpa [lRoom] using hc1) (by simpa [lRoom] using hc2) I
                  have hB := backOf (R := lRoom Q mi me) (p := p) (e := e) (below := below) (s := s₀) (args := args) (len := 3) (W := cats (st.drop me'.na)) hM hZ hcode w3 hg1 hg2
                  have hsm : st.map (va (rho a n0 (P.al.length + 1))) = (((st.take me'.na).reverse).map (va (rho a n0 (P.al.length + 1)))).reverse ++ (st.drop me'.na).map (va (rho a n0 (P.al.length + 1))) := by
                    conv => lhs; rw [← List.take_append_drop me'.na st]
                    simp
                  have hll : ∀ sig, parseMethodDescriptor (zOf Q me').desc = some sig → (((st.take me'.na).reverse).map (va (rho a n0 (P.al.length + 1)))).length = sig.parameters.length := lenOf hpar (by simp [hpl]; omega)
                  have hz1 : (lRoom Q m' me').cells = 0 := by simp [lRoom, hg0]
                  have hz2 : (lRoom Q m' me').slots = 0 := by simp [lRoom, hg0]
                  have hpre : ∀ vm₁, s₀.WarmedH vm₁ → ((((st.take me'.na).reverse).map (va (rho a n0 (P.al.length + 1)))).toArray = (((st.take me'.na).reverse).map (va (rho a n0 (P.al.length + 1)))).toArray ∧ (T.setVm vm₁).heap = T.heap ∧ lco P mi w + (lRoom Q m' me').cells ≤ (lRoom Q mi me).cells ∧ lzo P Q mi w + (lRoom Q m' me').slots ≤ (lRoom Q mi me).slots) := fun vm₁ _ => by
                    refine ⟨rfl, rfl, ?_, ?_⟩
                    · rw [hz1]; simp only [lco, lRoom] at *; split
                      · simpa using hc1
                      · exact Nat.le_refl _
                    · rw [hz2]; simp only [lzo, lRoom] at *; split
                      · simpa using hc2
                      · exact Nat.le_refl _
                  obtain ⟨v', vm₁, ⟨U, lo, ce, sl⟩, -, X', ⟨Lc, hQ, l1, l2, l3⟩, stp⟩ := Jvm.LawKit.callS X hx (y := zOf Q me') hown (mv hZ w1) (mv hZ w2) (mv hZ w3) (mv hZ hcode) LL.2.2.2.2.2.2.2 hB (g := mkF m pc L (st.map (va (rho a n0 (P.al.length + 1))))) rfl hsize hll hsm (by show 2 * 0 + _ ≤ _; rw [cats_va]; omega) hd hpre
                  dsimp only [Pt.U, Pt.locs, Pt.cells, Pt.slots] at X' hQ l1 l2 l3 stp
                  subst l1 l2 l3
                  obtain ⟨⟨rfl, hva⟩, hF', hI'⟩ := hQ
                  rw [hz1, hz2] at X'
                  have hcn := lexec_cnt _ _ _ _ _ _ _ _ _ hg0 hcl
                  have e1 : lco P mi w2' = lco P mi w := by simp only [lco, hcn]
                  have e2 : lzo P Q mi w2' = lzo P Q mi w := by simp only [lzo, hcn]
                  refine Don.step (fun t q => stp t ?_) (ihk p l e s₀ m args below meth cd U (locs ++ Lc) _ ls (v'.toList ++ st.drop me'.na) _ v w' L hx hZ hown hret hml hlk hs0 hdec hr' (by rw [e1, e2]; exact X') (by rw [hcn]; exact hc1) (by rw [hcn]; exact hc2) hI' (hFr.app hF') hL hlen)
                  rw [List.map_append, hva] at q; exact q
              · rw [if_neg hla] at hr; cases hr
            · cases hr
      -- the rest
      · split at hr
        · split at hr
          · rename_i u hu
            cases hr
            refine st_ret X hx hret hlk hu hd hn ⟨⟨rfl, cret_va hu⟩, hFr, I⟩ ?_ ?_
            · simp only [lco, lRoom] at *; split
              · simpa using hc1
              · exact Nat.le_refl _
            · simp only [lzo, lRoom] at *; split
              · simpa using hc2
              · exact Nat.le_refl _
          · cases hr
        · split at hr
          · rename_i pc' ls' st' hp
            obtain ⟨L', hL', hLs, st⟩ := pstep_sound X hx hp hd hn hL
            have hlen' : ls'.length = me.ml := by rw [← hL'.1, hLs, hL.1]; exact hlen
            exact Don.step st (ihk p l e s₀ m args below meth cd T locs _ ls' st' w v w' L' hx hZ hown hret hml hlk hs0 hdec hr X hc1 hc2 I hFr hL' hlen')
          · cases hr
/-- the law as a whole: what the machine returns, the program returns -/
theorem law_met {P : Cl} {Q : Lw} {sc : Sc} {Z : State} {a0 : Array Value} (LK : LinkC P Z a0) (LL : LinkL P Q Z a0) {a f : Nat} {me : Me} (hme : asc Q.ms 0 = some me) (l : Launch) {bytes : ByteArray} {ws : List Cond}
    (hdec : ∀ pc i n, fetch me.cd pc = some (i, n) → decode bytes pc = .ok (i, n) ∧ (isSw i = true ∨ n = ilen i))
    {as : List Value} (hnd : nd as = true) (hlen : (layA as).length ≤ me.ml) {v : Option Value} {w' : Wd} {h : Heap} (hr : lexec P Q sc f 0 me 0 (lay as me.ml) [] (fun _ => s0, 0, false) = some (v, w')) (hS : SRep Z h a h.size sc) :
    MetFree l (zOf Q me) (head1 (Cond.code (zOf Q me) bytes me.ml (retOf me.rt) :: ws) (lRoom Q 0 me)) (fun b U => b = (as.map (va (rho a h.size (P.al.length + 1)))).toArray ∧ Z.Warmed39 U.vm ∧ U.heap = h) (fun _ _ _ _ _ => True)
      (fun _ U o U' => ∃ u L, o = .returned u ∧ (u = v ∧ Fr h.size L) ∧ FrameEnd U o U' L Q.rc Q.rs) := by
  refine MetFree.of_bodySF (plainFor_of_name LL.2.2.2.2.2.2.1) hisR ?_
  intro p e s₀ m args below meth cd s₁ Bd hml hP hK
  obtain ⟨rfl, hZ, hh⟩ := hP
  have e0 : s₁.heap = h := by rw [← hh, Bd.state]; rfl
  have X0 : Stand p l e (lRoom Q 0 me) s₀ m _ below meth cd s₁ [] 0 0 := Stand.of_body Bd
  have hown : s₀.vm.findClass Q.nm = some m.cls := findClass_of_methodNamed Bd.named
  have hk0 : lco P 0 (fun _ => s0, 0, false) = 0 := by simp [lco]
  have hz0 : lzo P Q 0 (fun _ => s0, 0, false) = 0 := by simp [lzo]
  have D := lwalk LK LL (sc := sc) (a := a) (n0 := h.size) f 0 me hme p l e s₀ m _ below meth cd s₁ [] 0 (lay as me.ml) [] (fun _ => s0, 0, false) v w' _ Bd.exec hZ hown Bd.returns hml Bd.notSynchronized (fun _ => by rw [hh])
    (fun pc i n q => by rw [Bd.bytes]; exact hdec pc i n q) hr (by rw [hk0, hz0]; exact X0) (by simp) (by simp) (by
      rw [e0]; exact ⟨hS, fun o ho => absurd ho (Nat.not_lt_zero _), fun q => by simp at q, by simp⟩) (Fr.nil _) (lay_LR (nd_spec hnd) hlen) (lay_len hlen)
  obtain ⟨s₂, o, a1, a2, a3, u, L, a4, a5, a6⟩ := D
  refine ⟨s₂, o, a1, a2, a3, u, L, a4, ⟨a5.1.1, a5.2.1⟩, ?_⟩
  simpa [lRoom] using a6
end Jvm.LM

namespace Jvm.LM
open Sem ClassFile Op Lib Jvm.Stand Jvm.Free Jvm.LawKit Jvm.RoadKit
/-! what a run of the machine comes to -/
theorem cstep_mono {α : Type} {P : Cl} {mi : Nat} {me : Me} {rt : Option Value → St → Option α} {cl cl' : Nat → Nat → List Value → St → Rs} {k k' : Nat → Nat → Lv → List Value → St → Option α} {i : Instr} {c pc : Nat} {ls : Lv} {st : List Value} {s : St} {r : α}
    (hcl : ∀ m c as s r, cl m c as s = some r → cl' m c as s = some r) (hk : ∀ c pc ls st s r, k c pc ls st s = some r → k' c pc ls st s = some r) (h : cstep P mi me rt cl k i c pc ls st s = some r) : cstep P mi me rt cl' k' i c pc ls st s = some r := by
  unfold cstep at h ⊢
  split at h
  all_goals (try dsimp only)
  · split at h
    · split at h
      · exact hk _ _ _ _ _ _ h
      · cases h
    · cases h
  · split at h
    · split at h
      · exact hk _ _ _ _ _ _ h
      · cases h
    · cases h
  · split at h
    · exact hk _ _ _ _ _ _ h
    · cases h
  · split at h
    · exact hk _ _ _ _ _ _ h
    · cases h
  · split at h
    · exact hk _ _ _ _ _ _ h
    · cases h
  · split at h
    · exact hk _ _ _ _ _ _ h
    · cases h
  · split at h
    · exact hk _ _ _ _ _ _ h
    · cases h
  · split at h
    · exact hk _ _ _ _ _ _ h
    · cases h
  · split at h
    · rename_i q; rw [if_pos q]; exact hk _ _ _ _ _ _ h
    · cases h
  · split at h
    · exact hk _ _ _ _ _ _ h
    · cases h
  · split at h
    · exact hk _ _ _ _ _ _ h
    · cases h
  · split at h
    · split at h
      · rename_i q; rw [if_pos q]; exact hk _ _ _ _ _ _ h
      · cases h
    · cases h
  · split at h
    · cases h
    · rename_i m' hm'
      split at h
      · cases h
      · rename_i me' hme'
        split at h
        · rename_i r0 hst
          split at h
          · rename_i q
            rw [if_pos q]
            split at h
            · rename_i s1 hc; rw [hcl _ _ _ _ _ hc]; exact hk _ _ _ _ _ _ h
            · rename_i v1 s1 hc; rw [hcl _ _ _ _ _ hc]; exact hk _ _ _ _ _ _ h
            · cases h
          · cases h
        · cases h
  · split at h
    · rename_i q; rw [if_pos q]; exact h
    · rename_i q; rw [if_neg q]
      split at h
      · exact hk _ _ _ _ _ _ h
      · cases h
theorem cexec_succ {P : Cl} : ∀ f mi me c pc ls st s r, cexec P f mi me c pc ls st s = some r → cexec P (f + 1) mi me c pc ls st s = some r := by
  intro f
  induction f with
  | zero => intro mi me c pc ls st s r h; cases h
  | succ f ih =>
    intro mi me c pc ls st s r h
    rw [cexec] at h ⊢
    split at h
    · cases h
    · refine cstep_mono (fun m c as s r h => ?_) (fun c pc ls st s r h => ih _ _ _ _ _ _ _ _ h) h
      split at h
      · split at h
        · rename_i q; rw [if_pos q]; exact ih _ _ _ _ _ _ _ _ h
        · cases h
      · cases h
theorem cexec_le {P : Cl} {f g mi : Nat} {me : Me} {c pc : Nat} {ls : Lv} {st : List Value} {s : St} {r : Option Value × St} (hfg : f ≤ g) (h : cexec P f mi me c pc ls st s = some r) : cexec P g mi me c pc ls st s = some r := by
  obtain ⟨d, rfl⟩ := Nat.le.dest hfg
  induction d with
  | zero => exact h
  | succ d ih => exact cexec_succ _ _ _ _ _ _ _ _ _ (ih (Nat.le_add_right _ _))
theorem ccall_le {P : Cl} {f g m' c : Nat} {as : List Value} {s : St} {r : Option Value × St} (hfg : f ≤ g) (h : ccall P f m' c as s = some r) : ccall P g m' c as s = some r := by
  unfold ccall at h ⊢
  split at h
  · split at h
    · rename_i q; rw [if_pos q]; exact cexec_le hfg h
    · cases h
  · cases h
def wpc (P : Cl) (mi : Nat) (me : Me) (c pc : Nat) (ls : Lv) (st : List Value) (s : St) (Q : Option Value → St → Prop) : Prop := ∃ f v s', cexec P f mi me c pc ls st s = some (v, s') ∧ Q v s'
def cal (P : Cl) (m' c : Nat) (as : List Value) (s : St) (Q : Option Value → St → Prop) : Prop := ∃ f v s', ccall P f m' c as s = some (v, s') ∧ Q v s'
def calI (P : Cl) (m' c : Nat) (as : List Value) (s : St) (Q : Int32 → St → Prop) : Prop := cal P m' c as s fun r s' => ∃ v, r = some (.int v) ∧ Q v s'
def calL (P : Cl) (m' c : Nat) (as : List Value) (s : St) (Q : Int64 → St → Prop) : Prop := cal P m' c as s fun r s' => ∃ v, r = some (.long v) ∧ Q v s'
def calV (P : Cl) (m' c : Nat) (as : List Value) (s : St) (Q : St → Prop) : Prop := cal P m' c as s fun r s' => r = none ∧ Q s'
theorem cstep_nat {α : Type} {P : Cl} {mi : Nat} {me : Me} {k : Nat → Nat → Lv → List Value → St → Option α} {i : Instr} {c pc : Nat} {ls : Lv} {st : List Value} {s : St} {x : α}
    (h : cstep P mi me (fun _ _ => none) (fun _ _ _ _ => none) k i c pc ls st s = some x) : ∃ c' pc' ls' st' s', k c' pc' ls' st' s' = some x ∧ ∀ (β : Type) (rt : Option Value → St → Option β) cl (k' : Nat → Nat → Lv → List Value → St → Option β), cstep P mi me rt cl k' i c pc ls st s = k' c' pc' ls' st' s' := by
  unfold cstep at h
  split at h
  · split at h
    · split at h
      · rename_i q; exact ⟨_, _, _, _, _, h, fun β rt cl k' => by simp only [cstep, q]⟩
      · cases h
    · cases h
  · split at h
    · split at h
      · rename_i q; exact ⟨_, _, _, _, _, h, fun β rt cl k' => by simp only [cstep, q]⟩
      · cases h
    · cases h
  · split at h
    · rename_i q; exact ⟨_, _, _, _, _, h, fun β rt cl k' => by simp only [cstep, q]⟩
    · cases h
  · split at h
    · rename_i q; exact ⟨_, _, _, _, _, h, fun β rt cl k' => by simp only [cstep, q]⟩
    · cases h
  · split at h
    · rename_i q; exact ⟨_, _, _, _, _, h, fun β rt cl k' => by simp only [cstep, q]⟩
    · cases h
  · split at h
    · rename_i q; exact ⟨_, _, _, _, _, h, fun β rt cl k' => by simp only [cstep, q]⟩
    · cases h
  · split at h
    · rename_i q; exact ⟨_, _, _, _, _, h, fun β rt cl k' => by simp only [cstep, q]⟩
    · cases h
  · split at h
    · rename_i q; exact ⟨_, _, _, _, _, h, fun β rt cl k' => by simp only [cstep, q]⟩
    · cases h
  · split at h
    · rename_i q; exact ⟨_, _, _, _, _, h, fun β rt cl k' => by simp only [cstep]; rw [if_pos q]⟩
    · cases h
  · split at h
    · rename_i q; exact ⟨_, _, _, _, _, h, fun β rt cl k' => by simp only [cstep, q]⟩
    · cases h
  · split at h
    · rename_i q; exact ⟨_, _, _, _, _, h, fun β rt cl k' => by simp only [cstep, q]⟩
    · cases h
  · split at h
    · split at h
      · rename_i q; exact ⟨_, _, _, _, _, h, fun β rt cl k' => by simp only [cstep]; rw [if_pos q]⟩
      · cases h
    · cases h
  · split at h
    · cases h
    · split at h
      · cases h
      · split at h
        · split at h
          · cases h
          · cases h
        · cases h
  · rename_i n1 n2 n3 n4 n5 n6 n7 n8 n9 n10 n11 n12 n13
    split at h
    · split at h
      · cases h
      · split at h <;> cases h
    · rename_i hr
      split at h
      · rename_i pc' ls' st' hp
        refine ⟨_, _, _, _, _, h, fun β rt cl k' => ?_⟩
        unfold cstep
        split <;> first | (exfalso; first | exact n1 _ rfl | exact n2 _ rfl | exact n3 rfl | exact n4 rfl | exact n5 rfl | exact n6 rfl | exact n7 rfl | exact n8 rfl | exact n9 _ rfl | exact n10 _ rfl | exact n11 _ rfl | exact n12 _ rfl | exact n13 _ rfl) | skip
        rw [if_neg hr, hp]
      · cases h
def csl (P : Cl) (mi : Nat) (me : Me) : Nat → Nat → Nat → Lv → List Value → St → Option (Nat × Nat × Lv × List Value × St)
  | 0, c, pc, ls, st, s => some (c, pc, ls, st, s)
  | n + 1, c, pc, ls, st, s => match fetch me.cd pc with
    | none => none
    | some (i, _) => cstep P mi me (fun _ _ => none) (fun _ _ _ _ => none) (csl P mi me n) i c pc ls st s
theorem wpc_one {P : Cl} {mi : Nat} {me : Me} {c pc c' pc' : Nat} {ls ls' : Lv} {st st' : List Value} {s s' : St} {Q : Option Value → St → Prop} {i : Instr} {n : Nat} (hf : fetch me.cd pc = some (i, n))
    (h : ∀ (rt : Option Value → St → Rs) cl (k : Nat → Nat → Lv → List Value → St → Rs), cstep P mi me rt cl k i c pc ls st s = k c' pc' ls' st' s') (hq : wpc P mi me c' pc' ls' st' s' Q) : wpc P mi me c pc ls st s Q := by
  obtain ⟨f, v, s2, h1, h2⟩ := hq
  refine ⟨f + 1, v, s2, ?_, h2⟩
  rw [cexec, hf]; dsimp only; rw [h]; exact h1
theorem wpc_sl {P : Cl} {mi : Nat} {me : Me} {Q : Option Value → St → Prop} : ∀ {n c pc c' pc' : Nat} {ls ls' : Lv} {st st' : List Value} {s s' : St}, csl P mi me n c pc ls st s = some (c', pc', ls', st', s') → wpc P mi me c' pc' ls' st' s' Q → wpc P mi me c pc ls st s Q := by
  intro n
  induction n with
  | zero => intro c pc c' pc' ls ls' st st' s s' h hq; cases h; exact hq
  | succ n ih =>
    intro c pc c' pc' ls ls' st st' s s' h hq
    simp only [csl] at h
    split at h
    · cases h
    · rename_i i m hf
      obtain ⟨c1, pc1, ls1, st1, s1, h1, h2⟩ := cstep_nat h
      exact wpc_one hf (fun rt cl k => h2 _ rt cl k) (ih h1 hq)
theorem wpc_ret {P : Cl} {mi : Nat} {me : Me} {c pc : Nat} {ls : Lv} {st : List Value} {s : St} {Q : Option Value → St → Prop} {i : Instr} {n : Nat} {v : Option Value} (hf : fetch me.cd pc = some (i, n)) (hr : isRet i = true) (hc : mi = 0 → c = P.al.length) (h : cret me st i = some v) (hq : Q v s) : wpc P mi me c pc ls st s Q := by
  refine ⟨1, v, s, ?_, hq⟩
  rw [cexec, hf]; dsimp only
  have hc' : ¬ (mi = 0 ∧ c ≠ P.al.length) := fun q => q.2 (hc q.1)
  cases i <;> first | (cases hr; done) | (simp only [cstep]; rw [if_pos hr, if_neg hc', h])
theorem wpc_if {P : Cl} {mi : Nat} {me : Me} {c pc a b : Nat} {ls : Lv} {r : List Value} {s : St} {Q : Option Value → St → Prop} {cd : ClassFile.Cond} {o : Int} {n : Nat} {x : Int32} (hf : fetch me.cd pc = some (.ifCond cd o, n)) (ho : 0 ≤ (pc : Int) + o) (ha : jmp pc o = a) (hb : pc + 3 = b)
    (hq : wpc P mi me c (br cd x 0 a b) ls r s Q) : wpc P mi me c pc ls (.int x :: r) s Q := by
  subst ha hb
  refine wpc_one hf (fun rt cl k => ?_) hq
  show (match pstep (.ifCond cd o) pc ls (.int x :: r) with | some (pc', ls', st') => k c pc' ls' st' s | none => none) = _
  simp only [pstep, qstep]; rw [if_pos ho]
theorem wpc_icmp {P : Cl} {mi : Nat} {me : Me} {c pc a b : Nat} {ls : Lv} {r : List Value} {s : St} {Q : Option Value → St → Prop} {cd : ClassFile.Cond} {o : Int} {n : Nat} {x y : Int32} (hf : fetch me.cd pc = some (.if_icmp cd o, n)) (ho : 0 ≤ (pc : Int) + o) (ha : jmp pc o = a) (hb : pc + 3 = b)
    (hq : wpc P mi me c (br cd x y a b) ls r s Q) : wpc P mi me c pc ls (.int y :: .int x :: r) s Q := by
  subst ha hb
  refine wpc_one hf (fun rt cl k => ?_) hq
  show (match pstep (.if_icmp cd o) pc ls (.int y :: .int x :: r) with | some (pc', ls', st') => k c pc' ls' st' s | none => none) = _
  simp only [pstep, qstep]; rw [if_pos ho]
/-- the two roads of a branch -/
theorem wpc_br {P : Cl} {mi : Nat} {me : Me} {c a b : Nat} {ls : Lv} {st : List Value} {s : St} {Q : Option Value → St → Prop} {p : Prop} [Decidable p] (h : (p → wpc P mi me c a ls st s Q) ∧ (¬ p → wpc P mi me c b ls st s Q)) : wpc P mi me c (if p then a else b) ls st s Q := by
  by_cases hp : p
  · rw [if_pos hp]; exact h.1 hp
  · rw [if_neg hp]; exact h.2 hp
theorem wpc_lda {P : Cl} {mi : Nat} {me : Me} {c pc a tt N : Nat} {ls : Lv} {r : List Value} {s : St} {Q : Option Value → St → Prop} {i : Instr} {n : Nat} {j : Int32} (hf : fetch me.cd pc = some (i, n)) (hi : (tt = 0 ∧ i = .iaload) ∨ (tt = 1 ∧ i = .baload) ∨ (tt = 2 ∧ i = .laload)) (ha : P.al[a]? = some (tt, N)) (hac : a < c)
    (hj : inb N j) (hq : wpc P mi me c (pc + 1) ls (elv tt s (a + 1) (ix j) :: r) s Q) : wpc P mi me c pc ls (.int j :: .ref (a + 1) :: r) s Q := by
  have hl : lda P tt c (.int j :: .ref (a + 1) :: r) s = some (elv tt s (a + 1) (ix j) :: r) := by
    simp only [lda, ha]; rw [if_pos ⟨trivial, hac⟩, if_pos hj]; rfl
  refine wpc_one hf (fun rt cl k => ?_) hq
  rcases hi with ⟨rfl, rfl⟩ | ⟨rfl, rfl⟩ | ⟨rfl, rfl⟩ <;> simp only [cstep, hl]
theorem wpc_sta {P : Cl} {mi : Nat} {me : Me} {c pc a tt N : Nat} {ls : Lv} {r : List Value} {s s' : St} {Q : Option Value → St → Prop} {i : Instr} {n : Nat} {j : Int32} {v : Value} (hf : fetch me.cd pc = some (i, n)) (hi : (tt = 0 ∧ i = .iastore ∧ ∃ z, v = .int z ∧ s' = sI s (a + 1) (ix j) z) ∨ (tt = 1 ∧ i = .bastore ∧ ∃ z, v = .int z ∧ s' = sI s (a + 1) (ix j) (z &&& 1)) ∨ (tt = 2 ∧ i = .lastore ∧ ∃ z, v = .long z ∧ s' = sL s (a + 1) (ix j) z)) (ha : P.al[a]? = some (tt, N)) (hac : a < c)
    (hj : inb N j) (hq : wpc P mi me c (pc + 1) ls r s' Q) : wpc P mi me c pc ls (v :: .int j :: .ref (a + 1) :: r) s Q := by
  have hl : sta P tt c (v :: .int j :: .ref (a + 1) :: r) s = some (r, s') := by
    simp only [sta, ha]; rw [if_pos ⟨trivial, hac⟩, if_pos hj]
    rcases hi with ⟨rfl, -, z, rfl, rfl⟩ | ⟨rfl, -, z, rfl, rfl⟩ | ⟨rfl, -, z, rfl, rfl⟩ <;> rfl
  refine wpc_one hf (fun rt cl k => ?_) hq
  rcases hi with ⟨rfl, rfl, -⟩ | ⟨rfl, rfl, -⟩ | ⟨rfl, rfl, -⟩ <;> simp only [cstep, hl]
theorem wpc_call {P : Cl} {mi : Nat} {me me' : Me} {c pc x m' : Nat} {ls : Lv} {st r as : List Value} {s : St} {Q : Option Value → St → Prop} {n : Nat} (hf : fetch me.cd pc = some (.invokevirtual x, n)) (hm : asc P.mx x = some m') (hme : asc P.ms m' = some me') (hst : st.drop me'.na = .ref 0 :: r) (has : (st.take me'.na).reverse = as)
    (hg : m' ≠ 0 ∧ me'.rf + 1 ≤ me.rf ∧ cats r + (me'.ml + 11) + me'.rl ≤ me.rl ∧ nd (st.take me'.na) = true)
    (hq : cal P m' c (.ref 0 :: as) s fun v s' => wpc P mi me c (pc + 3) ls (v.toList ++ r) s' Q) : wpc P mi me c pc ls st s Q := by
  subst has
  obtain ⟨f1, v, s1, h1, f2, v2, s2, h2, h3⟩ := hq
  refine ⟨max f1 f2 + 1, v2, s2, ?_, h3⟩
  have h1' := ccall_le (Nat.le_max_left f1 f2) h1
  have h2' := cexec_le (Nat.le_max_right f1 f2) h2
  rw [cexec, hf]; dsimp only
  simp only [cstep, hm, hme, hst]
  rw [if_pos hg]
  simp only [ccall, hme] at h1'
  rw [h1']
  cases v <;> exact h2'
theorem cal_of {P : Cl} {m' c : Nat} {as : List Value} {s : St} {Q : Option Value → St → Prop} {me : Me} {ls : Lv} (hme : asc P.ms m' = some me) (hl : (layA as).length ≤ me.ml) (hls : lay as me.ml = ls) (h : wpc P m' me c 0 ls [] s Q) : cal P m' c as s Q := by
  subst hls
  obtain ⟨f, v, s', h1, h2⟩ := h
  refine ⟨f, v, s', ?_, h2⟩
  simp only [ccall, hme]; rw [if_pos hl]; exact h1
theorem cal.mono {P : Cl} {m' c : Nat} {as : List Value} {s : St} {Q Q' : Option Value → St → Prop} (h : cal P m' c as s Q) (hq : ∀ v s', Q v s' → Q' v s') : cal P m' c as s Q' := by
  obtain ⟨f, v, s', h1, h2⟩ := h; exact ⟨f, v, s', h1, hq _ _ h2⟩
theorem calI.mono {P : Cl} {m' c : Nat} {as : List Value} {s : St} {Q Q' : Int32 → St → Prop} (h : calI P m' c as s Q) (hq : ∀ v s', Q v s' → Q' v s') : calI P m' c as s Q' := cal.mono h fun _ _ ⟨v, e, q⟩ => ⟨v, e, hq _ _ q⟩
theorem calL.mono {P : Cl} {m' c : Nat} {as : List Value} {s : St} {Q Q' : Int64 → St → Prop} (h : calL P m' c as s Q) (hq : ∀ v s', Q v s' → Q' v s') : calL P m' c as s Q' := cal.mono h fun _ _ ⟨v, e, q⟩ => ⟨v, e, hq _ _ q⟩
theorem calV.mono {P : Cl} {m' c : Nat} {as : List Value} {s : St} {Q Q' : St → Prop} (h : calV P m' c as s Q) (hq : ∀ s', Q s' → Q' s') : calV P m' c as s Q' := cal.mono h fun _ _ ⟨e, q⟩ => ⟨e, hq _ q⟩
theorem wpc.mono {P : Cl} {mi : Nat} {me : Me} {c pc : Nat} {ls : Lv} {st : List Value} {s : St} {Q Q' : Option Value → St → Prop} (h : wpc P mi me c pc ls st s Q) (hq : ∀ v s', Q v s' → Q' v s') : wpc P mi me c pc ls st s Q' := by
  obtain ⟨f, v, s', h1, h2⟩ := h; exact ⟨f, v, s', h1, hq _ _ h2⟩
theorem wpc_callI {P : Cl} {mi : Nat} {me me' : Me} {c pc x m' : Nat} {ls : Lv} {st r as : List Value} {s : St} {Q : Option Value → St → Prop} {n : Nat} (hf : fetch me.cd pc = some (.invokevirtual x, n)) (hm : asc P.mx x = some m') (hme : asc P.ms m' = some me') (hst : st.drop me'.na = .ref 0 :: r) (has : (st.take me'.na).reverse = as)
    (hg : m' ≠ 0 ∧ me'.rf + 1 ≤ me.rf ∧ cats r + (me'.ml + 11) + me'.rl ≤ me.rl ∧ nd (st.take me'.na) = true)
    (hq : calI P m' c (.ref 0 :: as) s fun v s' => wpc P mi me c (pc + 3) ls (.int v :: r) s' Q) : wpc P mi me c pc ls st s Q :=
  wpc_call hf hm hme hst has hg (cal.mono hq fun _ _ ⟨v, e, q⟩ => by subst e; exact q)
theorem wpc_callL {P : Cl} {mi : Nat} {me me' : Me} {c pc x m' : Nat} {ls : Lv} {st r as : List Value} {s : St} {Q : Option Value → St → Prop} {n : Nat} (hf : fetch me.cd pc = some (.invokevirtual x, n)) (hm : asc P.mx x = some m') (hme : asc P.ms m' = some me') (hst : st.drop me'.na = .ref 0 :: r) (has : (st.take me'.na).reverse = as)
    (hg : m' ≠ 0 ∧ me'.rf + 1 ≤ me.rf ∧ cats r + (me'.ml + 11) + me'.rl ≤ me.rl ∧ nd (st.take me'.na) = true)
    (hq : calL P m' c (.ref 0 :: as) s fun v s' => wpc P mi me c (pc + 3) ls (.long v :: r) s' Q) : wpc P mi me c pc ls st s Q :=
  wpc_call hf hm hme hst has hg (cal.mono hq fun _ _ ⟨v, e, q⟩ => by subst e; exact q)
theorem wpc_callV {P : Cl} {mi : Nat} {me me' : Me} {c pc x m' : Nat} {ls : Lv} {st r as : List Value} {s : St} {Q : Option Value → St → Prop} {n : Nat} (hf : fetch me.cd pc = some (.invokevirtual x, n)) (hm : asc P.mx x = some m') (hme : asc P.ms m' = some me') (hst : st.drop me'.na = .ref 0 :: r) (has : (st.take me'.na).reverse = as)
    (hg : m' ≠ 0 ∧ me'.rf + 1 ≤ me.rf ∧ cats r + (me'.ml + 11) + me'.rl ≤ me.rl ∧ nd (st.take me'.na) = true)
    (hq : calV P m' c (.ref 0 :: as) s fun s' => wpc P mi me c (pc + 3) ls r s' Q) : wpc P mi me c pc ls st s Q :=
  wpc_call hf hm hme hst has hg (cal.mono hq fun _ _ ⟨e, q⟩ => by subst e; exact q)
/-- both roads of a value -/
theorem wp_val {p : Prop} [Decidable p] {α : Sort _} {F : α → Prop} {x y : α} (h : F (if p then x else y)) : (p → F x) ∧ (¬ p → F y) := ⟨fun q => by rw [if_pos q] at h; exact h, fun q => by rw [if_neg q] at h; exact h⟩
end Jvm.LM

namespace Jvm.LM
open Sem ClassFile Op Lib Jvm.Stand Jvm.Free Jvm.LawKit Jvm.RoadKit
/-! variables that are not read any more -/
def lle (a b : Lv) : Prop := a.length = b.length ∧ ∀ (k : Nat) (v : Value), a[k]? = some (some v) → b[k]? = some (some v)
def lle' : Lv → Lv → Prop
  | [], [] => True
  | none :: a, _ :: b => lle' a b
  | some v :: a, w :: b => w = some v ∧ lle' a b
  | _, _ => False
theorem lle_of {a b : Lv} (h : lle' a b) : lle a b := by
  induction a generalizing b with
  | nil => cases b with
    | nil => exact ⟨rfl, fun k v hk => hk⟩
    | cons y b => cases h
  | cons x a ih =>
    cases b with
    | nil => cases x <;> cases h
    | cons y b =>
      cases x with
      | none =>
        obtain ⟨h1, h2⟩ := ih (b := b) h
        refine ⟨by simp [h1], fun k v hk => ?_⟩
        cases k with
        | zero => simp at hk
        | succ k => simp at hk ⊢; exact h2 k v hk
      | some x =>
        obtain ⟨e, h⟩ := h
        obtain ⟨h1, h2⟩ := ih (b := b) h
        subst e
        refine ⟨by simp [h1], fun k v hk => ?_⟩
        cases k with
        | zero => exact hk
        | succ k => simp at hk ⊢; exact h2 k v hk
theorem clr_lle {a b : Lv} (h : lle a b) (i : Nat) : (clr a i).length = (clr b i).length ∧ ∀ k v, k ≠ i → (clr a i)[k]? = some (some v) → (clr b i)[k]? = some (some v) := by
  refine ⟨by rw [clr_len, clr_len]; exact h.1, fun k v hk hv => ?_⟩
  obtain ⟨q1, q2⟩ := clr_get hv
  have q3 := h.2 _ _ q1
  cases i with
  | zero => exact q3
  | succ j =>
    simp only [clr]
    split
    · rename_i x e
      rw [List.getElem?_set]
      split
      · rename_i e2; subst e2
        rw [q3] at e; cases e
        exact absurd rfl (q2 rfl)
      · exact q3
    · rename_i x e
      rw [List.getElem?_set]
      split
      · rename_i e2; subst e2
        rw [q3] at e; cases e
        exact absurd rfl (q2 rfl)
      · exact q3
    · exact q3
theorem stl_lle {a b a' : Lv} (h : lle a b) {i : Nat} {v : Value} (hs : stl a i v = some a') : ∃ b', stl b i v = some b' ∧ lle a' b' := by
  obtain ⟨c1, c2⟩ := clr_lle h i
  have hl := h.1
  have one : ∀ w : Value, ∀ k u, ((clr a i).set i (some w))[k]? = some (some u) → ((clr b i).set i (some w))[k]? = some (some u) := fun w k u hk => by
    rw [List.getElem?_set] at hk ⊢
    split
    · rename_i e; rw [if_pos e] at hk; rw [← c1]; exact hk
    · rename_i e; rw [if_neg e] at hk; exact c2 k u (fun q => e q.symm) hk
  unfold stl at hs ⊢
  split at hs
  · rename_i x
    split at hs
    · rename_i q
      cases hs
      refine ⟨((clr b i).set i (some (.long x))).set (i + 1) none, if_pos (by rw [← hl]; exact q), by simp [c1], fun k u hk => ?_⟩
      rw [List.getElem?_set] at hk ⊢
      split
      · rename_i e; rw [if_pos e] at hk; split at hk <;> simp at hk
      · rename_i e; rw [if_neg e] at hk; exact one _ k u hk
    · cases hs
  · split at hs
    · rename_i q
      cases hs
      exact ⟨(clr b i).set i (some v), if_pos (by rw [← hl]; exact q), by simp [c1], fun k u hk => one _ k u hk⟩
    · cases hs
theorem pstep_lle {i : Instr} {pc pc' : Nat} {ls l1 ls' : Lv} {st st' : List Value} (h : pstep i pc ls st = some (pc', l1, st')) (hl : lle ls ls') : ∃ l1', pstep i pc ls' st = some (pc', l1', st') ∧ lle l1 l1' := by
  unfold pstep at h ⊢
  split at h
  all_goals (try dsimp only)
  iterate 6
    · split at h
      · rename_i e; cases h; rw [hl.2 _ _ e]; exact ⟨_, rfl, hl⟩
      · cases h
  iterate 6
    · split at h
      · split at h
        · rename_i e; cases h
          obtain ⟨b', q1, q2⟩ := stl_lle hl e
          rw [q1]; exact ⟨_, rfl, q2⟩
        · cases h
      · cases h
  · split at h
    · rename_i e0
      split at h
      · rename_i e; cases h
        obtain ⟨b', q1, q2⟩ := stl_lle hl e
        rw [hl.2 _ _ e0]; dsimp only; rw [q1]; exact ⟨_, rfl, q2⟩
      · cases h
    · cases h
  · split at h
    · cases h; exact ⟨_, rfl, hl⟩
    · cases h
theorem cstep_lle {P : Cl} {mi : Nat} {me : Me} {rt : Option Value → St → Rs} {cl : Nat → Nat → List Value → St → Rs} {k : Nat → Nat → Lv → List Value → St → Rs} {i : Instr} {c pc : Nat} {ls ls' : Lv} {st : List Value} {s : St} {r : Option Value × St} (hl : lle ls ls')
    (hk : ∀ c pc ls ls' st s, lle ls ls' → k c pc ls st s = some r → k c pc ls' st s = some r) (h : cstep P mi me rt cl k i c pc ls st s = some r) : cstep P mi me rt cl k i c pc ls' st s = some r := by
  unfold cstep at h ⊢
  split at h
  all_goals (try dsimp only)
  · split at h
    · split at h
      · exact hk _ _ _ _ _ _ hl h
      · cases h
    · cases h
  · split at h
    · split at h
      · exact hk _ _ _ _ _ _ hl h
      · cases h
    · cases h
  iterate 6
    · split at h
      · exact hk _ _ _ _ _ _ hl h
      · cases h
  · split at h
    · rename_i q; rw [if_pos q]; exact hk _ _ _ _ _ _ hl h
    · cases h
  iterate 2
    · split at h
      · exact hk _ _ _ _ _ _ hl h
      · cases h
  · split at h
    · split at h
      · rename_i q; rw [if_pos q]; exact hk _ _ _ _ _ _ hl h
      · cases h
    · cases h
  · split at h
    · cases h
    · split at h
      · cases h
      · split at h
        · split at h
          · rename_i q
            rw [if_pos q]
            split at h
            · exact hk _ _ _ _ _ _ hl h
            · exact hk _ _ _ _ _ _ hl h
            · cases h
          · cases h
        · cases h
  · split at h
    · rename_i q; rw [if_pos q]; exact h
    · rename_i q; rw [if_neg q]
      split at h
      · rename_i e
        obtain ⟨l1', q1, q2⟩ := pstep_lle e hl
        rw [q1]; exact hk _ _ _ _ _ _ q2 h
      · cases h
theorem cexec_lle {P : Cl} : ∀ f mi me c pc ls ls' st s r, lle ls ls' → cexec P f mi me c pc ls st s = some r → cexec P f mi me c pc ls' st s = some r := by
  intro f
  induction f with
  | zero => intro mi me c pc ls ls' st s r _ h; cases h
  | succ f ih =>
    intro mi me c pc ls ls' st s r hl h
    rw [cexec] at h ⊢
    split at h
    · cases h
    · exact cstep_lle hl (fun c pc ls ls' st s hl h => ih _ _ _ _ _ _ _ _ _ hl h) h
theorem wpc_lle {P : Cl} {mi : Nat} {me : Me} {c pc : Nat} {ls ls' : Lv} {st : List Value} {s : St} {Q : Option Value → St → Prop} (hl : lle' ls ls') (h : wpc P mi me c pc ls st s Q) : wpc P mi me c pc ls' st s Q := by
  obtain ⟨f, v, s', h1, h2⟩ := h; exact ⟨f, v, s', cexec_lle _ _ _ _ _ _ _ _ _ _ (lle_of hl) h1, h2⟩
end Jvm.LM

namespace Jvm.LM
open Sem ClassFile Op Lib Jvm.Stand Jvm.Free Jvm.LawKit Jvm.RoadKit
theorem lstep_mono {α : Type} {P : Cl} {Q : Lw} {sc : Sc} {mi : Nat} {me : Me} {rt : Option Value → Wd → Option α} {cc cc' : Nat → Nat → List Value → St → Rs} {cl cl' : Nat → List Value → Wd → Rw} {k k' : Nat → Lv → List Value → Wd → Option α} {i : Instr} {pc : Nat} {ls : Lv} {st : List Value} {w : Wd} {r : α}
    (hcc : ∀ m c as s r, cc m c as s = some r → cc' m c as s = some r) (hcl : ∀ m as s r, cl m as s = some r → cl' m as s = some r) (hk : ∀ pc ls st s r, k pc ls st s = some r → k' pc ls st s = some r) (h : lstep P Q sc mi me rt cc cl k i pc ls st w = some r) : lstep P Q sc mi me rt cc' cl' k' i pc ls st w = some r := by
  unfold lstep at h ⊢
  split at h
  all_goals (try dsimp only)
  · split at h
    · split at h
      · rename_i q; rw [if_pos q]; exact hk _ _ _ _ _ h
      · cases h
    · cases h
  · split at h
    · exact hk _ _ _ _ _ h
    · cases h
  · split at h
    · exact hk _ _ _ _ _ h
    · cases h
  · split at h
    · exact hk _ _ _ _ _ h
    · cases h
  · split at h
    · rename_i q; rw [if_pos q]; exact hk _ _ _ _ _ h
    · cases h
  · split at h
    · cases h
    · split at h
      · split at h
        · rename_i q
          rw [if_pos q]
          split at h
          · rename_i s1 hc; rw [hcc _ _ _ _ _ hc]; exact hk _ _ _ _ _ h
          · cases h
        · cases h
      · cases h
  · split at h
    · cases h
    · split at h
      · cases h
      · split at h
        · split at h
          · rename_i q
            rw [if_pos q]
            split at h
            · rename_i s1 hc; rw [hcc _ _ _ _ _ hc]; exact hk _ _ _ _ _ h
            · rename_i v1 s1 hc; rw [hcc _ _ _ _ _ hc]; exact hk _ _ _ _ _ h
            · cases h
          · cases h
        · cases h
  · split at h
    · cases h
    · split at h
      · cases h
      · split at h
        · rename_i q
          rw [if_pos q]
          split at h
          · rename_i s1 hc; rw [hcl _ _ _ _ hc]; exact hk _ _ _ _ _ h
          · rename_i v1 s1 hc; rw [hcl _ _ _ _ hc]; exact hk _ _ _ _ _ h
          · cases h
        · cases h
  · split at h
    · rename_i q; rw [if_pos q]; exact h
    · rename_i q; rw [if_neg q]
      split at h
      · exact hk _ _ _ _ _ h
      · cases h
theorem lexec_succ {P : Cl} {Q : Lw} {sc : Sc} : ∀ f mi me pc ls st w r, lexec P Q sc f mi me pc ls st w = some r → lexec P Q sc (f + 1) mi me pc ls st w = some r := by
  intro f
  induction f with
  | zero => intro mi me pc ls st s r h; cases h
  | succ f ih =>
    intro mi me pc ls st s r h
    rw [lexec] at h ⊢
    split at h
    · cases h
    · refine lstep_mono (fun m c as s r h => ccall_le (Nat.le_succ _) h) (fun m as s r h => ?_) (fun pc ls st s r h => ih _ _ _ _ _ _ _ h) h
      split at h
      · split at h
        · rename_i q; rw [if_pos q]; exact ih _ _ _ _ _ _ _ h
        · cases h
      · cases h
theorem lexec_le {P : Cl} {Q : Lw} {sc : Sc} {f g mi : Nat} {me : Me} {pc : Nat} {ls : Lv} {st : List Value} {w : Wd} {r : Option Value × Wd} (hfg : f ≤ g) (h : lexec P Q sc f mi me pc ls st w = some r) : lexec P Q sc g mi me pc ls st w = some r := by
  obtain ⟨d, rfl⟩ := Nat.le.dest hfg
  induction d with
  | zero => exact h
  | succ d ih => exact lexec_succ _ _ _ _ _ _ _ _ (ih (Nat.le_add_right _ _))
theorem lcall_le {P : Cl} {Q : Lw} {sc : Sc} {f g m' : Nat} {as : List Value} {w : Wd} {r : Option Value × Wd} (hfg : f ≤ g) (h : lcall P Q sc f m' as w = some r) : lcall P Q sc g m' as w = some r := by
  unfold lcall at h ⊢
  split at h
  · split at h
    · rename_i q; rw [if_pos q]; exact lexec_le hfg h
    · cases h
  · cases h
def wpl (P : Cl) (Q : Lw) (sc : Sc) (mi : Nat) (me : Me) (pc : Nat) (ls : Lv) (st : List Value) (w : Wd) (R : Option Value → Wd → Prop) : Prop := ∃ f v w', lexec P Q sc f mi me pc ls st w = some (v, w') ∧ R v w'
def lal (P : Cl) (Q : Lw) (sc : Sc) (m' : Nat) (as : List Value) (w : Wd) (R : Option Value → Wd → Prop) : Prop := ∃ f v w', lcall P Q sc f m' as w = some (v, w') ∧ R v w'
def lalI (P : Cl) (Q : Lw) (sc : Sc) (m' : Nat) (as : List Value) (w : Wd) (R : Int32 → Wd → Prop) : Prop := lal P Q sc m' as w fun r w' => ∃ v, r = some (.int v) ∧ R v w'
def lalL (P : Cl) (Q : Lw) (sc : Sc) (m' : Nat) (as : List Value) (w : Wd) (R : Int64 → Wd → Prop) : Prop := lal P Q sc m' as w fun r w' => ∃ v, r = some (.long v) ∧ R v w'
def lalV (P : Cl) (Q : Lw) (sc : Sc) (m' : Nat) (as : List Value) (w : Wd) (R : Wd → Prop) : Prop := lal P Q sc m' as w fun r w' => r = none ∧ R w'
theorem lal.mono {P : Cl} {Q : Lw} {sc : Sc} {m' : Nat} {as : List Value} {w : Wd} {R R' : Option Value → Wd → Prop} (h : lal P Q sc m' as w R) (hq : ∀ v s', R v s' → R' v s') : lal P Q sc m' as w R' := by
  obtain ⟨f, v, s', h1, h2⟩ := h; exact ⟨f, v, s', h1, hq _ _ h2⟩
theorem lalI.mono {P : Cl} {Q : Lw} {sc : Sc} {m' : Nat} {as : List Value} {w : Wd} {R R' : Int32 → Wd → Prop} (h : lalI P Q sc m' as w R) (hq : ∀ v s', R v s' → R' v s') : lalI P Q sc m' as w R' := lal.mono h fun _ _ ⟨v, e, q⟩ => ⟨v, e, hq _ _ q⟩
theorem lalL.mono {P : Cl} {Q : Lw} {sc : Sc} {m' : Nat} {as : List Value} {w : Wd} {R R' : Int64 → Wd → Prop} (h : lalL P Q sc m' as w R) (hq : ∀ v s', R v s' → R' v s') : lalL P Q sc m' as w R' := lal.mono h fun _ _ ⟨v, e, q⟩ => ⟨v, e, hq _ _ q⟩
theorem lalV.mono {P : Cl} {Q : Lw} {sc : Sc} {m' : Nat} {as : List Value} {w : Wd} {R R' : Wd → Prop} (h : lalV P Q sc m' as w R) (hq : ∀ s', R s' → R' s') : lalV P Q sc m' as w R' := lal.mono h fun _ _ ⟨e, q⟩ => ⟨e, hq _ q⟩
theorem wpl.mono {P : Cl} {Q : Lw} {sc : Sc} {mi : Nat} {me : Me} {pc : Nat} {ls : Lv} {st : List Value} {w : Wd} {R R' : Option Value → Wd → Prop} (h : wpl P Q sc mi me pc ls st w R) (hq : ∀ v s', R v s' → R' v s') : wpl P Q sc mi me pc ls st w R' := by
  obtain ⟨f, v, s', h1, h2⟩ := h; exact ⟨f, v, s', h1, hq _ _ h2⟩
theorem wpl_one {P : Cl} {Q : Lw} {sc : Sc} {mi : Nat} {me : Me} {pc pc' : Nat} {ls ls' : Lv} {st st' : List Value} {w w' : Wd} {R : Option Value → Wd → Prop} {i : Instr} {n : Nat} (hf : fetch me.cd pc = some (i, n))
    (h : ∀ (rt : Option Value → Wd → Rw) cc cl (k : Nat → Lv → List Value → Wd → Rw), lstep P Q sc mi me rt cc cl k i pc ls st w = k pc' ls' st' w') (hq : wpl P Q sc mi me pc' ls' st' w' R) : wpl P Q sc mi me pc ls st w R := by
  obtain ⟨f, v, s2, h1, h2⟩ := hq
  refine ⟨f + 1, v, s2, ?_, h2⟩
  rw [lexec, hf]; dsimp only; rw [h]; exact h1
/-- plain steps: nothing of the heap, no call -/
def isPl : Instr → Bool
  | .iaload => false | .arraylength => false | .ldc _ => false | .ldc2_w _ => false | .new _ => false | .invokespecial _ => false | .invokevirtual _ => false | .invokestatic _ => false
  | .ireturn => false | .lreturn => false | .return_ => false
  | _ => true
theorem lstep_pl {α : Type} {P : Cl} {Q : Lw} {sc : Sc} {mi : Nat} {me : Me} {rt : Option Value → Wd → Option α} {cc : Nat → Nat → List Value → St → Rs} {cl : Nat → List Value → Wd → Rw} {k : Nat → Lv → List Value → Wd → Option α} {i : Instr} {pc : Nat} {ls : Lv} {st : List Value} {w : Wd} (hi : isPl i = true) :
    lstep P Q sc mi me rt cc cl k i pc ls st w = match pstep i pc ls st with | some (pc', ls', st') => k pc' ls' st' w | none => none := by
  cases i <;> first | (cases hi; done) | rfl
def psl (kx : List (Nat × Value)) (cd : Cd) : Nat → Nat → Lv → List Value → Option (Nat × Lv × List Value)
  | 0, pc, ls, st => some (pc, ls, st)
  | n + 1, pc, ls, st => match fetch cd pc with
    | none => none
    | some (i, _) => match i with
      | .ldc x => (match asc kx x with | some (.int z) => psl kx cd n (pc + 2) ls (.int z :: st) | _ => none)
      | .ldc2_w x => (match asc kx x with | some (.long z) => psl kx cd n (pc + 3) ls (.long z :: st) | _ => none)
      | i => if isPl i = true then (match pstep i pc ls st with | some (pc', ls', st') => psl kx cd n pc' ls' st' | none => none) else none
theorem wpl_sl {P : Cl} {Q : Lw} {sc : Sc} {mi : Nat} {me : Me} {w : Wd} {R : Option Value → Wd → Prop} : ∀ {n pc pc' : Nat} {ls ls' : Lv} {st st' : List Value}, psl Q.kx me.cd n pc ls st = some (pc', ls', st') → wpl P Q sc mi me pc' ls' st' w R → wpl P Q sc mi me pc ls st w R := by
  intro n
  induction n with
  | zero => intro pc pc' ls ls' st st' h hq; cases h; exact hq
  | succ n ih =>
    intro pc pc' ls ls' st st' h hq
    simp only [psl] at h
    split at h
    · cases h
    · rename_i i m hf
      split at h
      · split at h
        · rename_i z e
          exact wpl_one hf (fun rt cc cl k => by simp only [lstep, e]) (ih h hq)
        · cases h
      · split at h
        · rename_i z e
          exact wpl_one hf (fun rt cc cl k => by simp only [lstep, e]) (ih h hq)
        · cases h
      · split at h
        · rename_i hi
          split at h
          · rename_i pc1 ls1 st1 e
            exact wpl_one hf (fun rt cc cl k => by rw [lstep_pl hi, e]) (ih h hq)
          · cases h
        · cases h
theorem wpl_ret {P : Cl} {Q : Lw} {sc : Sc} {mi : Nat} {me : Me} {pc : Nat} {ls : Lv} {st : List Value} {w : Wd} {R : Option Value → Wd → Prop} {i : Instr} {n : Nat} {v : Option Value} (hf : fetch me.cd pc = some (i, n)) (hr : isRet i = true) (h : cret me st i = some v) (hq : R v w) : wpl P Q sc mi me pc ls st w R := by
  refine ⟨1, v, w, ?_, hq⟩
  rw [lexec, hf]; dsimp only
  cases i <;> first | (cases hr; done) | (simp only [lstep]; rw [if_pos hr, h])
theorem wpl_if {P : Cl} {Q : Lw} {sc : Sc} {mi : Nat} {me : Me} {pc a b : Nat} {ls : Lv} {r : List Value} {w : Wd} {R : Option Value → Wd → Prop} {cd : ClassFile.Cond} {o : Int} {n : Nat} {x : Int32} (hf : fetch me.cd pc = some (.ifCond cd o, n)) (ho : 0 ≤ (pc : Int) + o) (ha : jmp pc o = a) (hb : pc + 3 = b)
    (hq : wpl P Q sc mi me (br cd x 0 a b) ls r w R) : wpl P Q sc mi me pc ls (.int x :: r) w R := by
  subst ha hb
  refine wpl_one hf (fun rt cc cl k => ?_) hq
  rw [lstep_pl rfl]
  simp only [pstep, qstep]; rw [if_pos ho]
theorem wpl_icmp {P : Cl} {Q : Lw} {sc : Sc} {mi : Nat} {me : Me} {pc a b : Nat} {ls : Lv} {r : List Value} {w : Wd} {R : Option Value → Wd → Prop} {cd : ClassFile.Cond} {o : Int} {n : Nat} {x y : Int32} (hf : fetch me.cd pc = some (.if_icmp cd o, n)) (ho : 0 ≤ (pc : Int) + o) (ha : jmp pc o = a) (hb : pc + 3 = b)
    (hq : wpl P Q sc mi me (br cd x y a b) ls r w R) : wpl P Q sc mi me pc ls (.int y :: .int x :: r) w R := by
  subst ha hb
  refine wpl_one hf (fun rt cc cl k => ?_) hq
  rw [lstep_pl rfl]
  simp only [pstep, qstep]; rw [if_pos ho]
theorem wpl_br {P : Cl} {Q : Lw} {sc : Sc} {mi : Nat} {me : Me} {a b : Nat} {ls : Lv} {st : List Value} {w : Wd} {R : Option Value → Wd → Prop} {p : Prop} [Decidable p] (h : (p → wpl P Q sc mi me a ls st w R) ∧ (¬ p → wpl P Q sc mi me b ls st w R)) : wpl P Q sc mi me (if p then a else b) ls st w R := by
  by_cases hp : p
  · rw [if_pos hp]; exact h.1 hp
  · rw [if_neg hp]; exact h.2 hp
theorem wpl_lda {P : Cl} {Q : Lw} {N : Nat} {g : Nat → Int32} {mi : Nat} {me : Me} {pc : Nat} {ls : Lv} {r : List Value} {w : Wd} {R : Option Value → Wd → Prop} {n : Nat} {j : Int32} (hf : fetch me.cd pc = some (.iaload, n)) (hj : inb N j) (hq : wpl P Q (some (N, g)) mi me (pc + 1) ls (.int (g (ix j)) :: r) w R) : wpl P Q (some (N, g)) mi me pc ls (.int j :: .ref 0 :: r) w R := by
  refine wpl_one hf (fun rt cc cl k => ?_) hq
  simp only [lstep]; rw [if_pos hj]
theorem wpl_len {P : Cl} {Q : Lw} {N : Nat} {g : Nat → Int32} {mi : Nat} {me : Me} {pc : Nat} {ls : Lv} {r : List Value} {w : Wd} {R : Option Value → Wd → Prop} {n : Nat} (hf : fetch me.cd pc = some (.arraylength, n)) (hq : wpl P Q (some (N, g)) mi me (pc + 1) ls (.int (Int32.ofNat N) :: r) w R) : wpl P Q (some (N, g)) mi me pc ls (.ref 0 :: r) w R := by
  refine wpl_one hf (fun rt cc cl k => ?_) hq
  simp only [lstep]
theorem wpl_new {P : Cl} {Q : Lw} {sc : Sc} {me : Me} {pc cnt : Nat} {ls : Lv} {st : List Value} {os : Nat → St} {R : Option Value → Wd → Prop} {n x : Nat} (hf : fetch me.cd pc = some (.new x, n)) (hx : x = Q.cx) (h1 : (cnt + 1) * (P.al.length + 1) ≤ Q.rc) (h2 : (cnt + 1) * (Q.nf + zs P.al P.al.length) ≤ Q.rs)
    (hq : wpl P Q sc 0 me (pc + 3) ls (.ref (cnt + 1) :: st) (uo os cnt s0, cnt, true) R) : wpl P Q sc 0 me pc ls st (os, cnt, false) R := by
  refine wpl_one hf (fun rt cc cl k => ?_) hq
  simp only [lstep]; rw [if_pos ⟨trivial, hx, trivial, h1, h2⟩]
theorem wpl_ctor {P : Cl} {Q : Lw} {sc : Sc} {me me' : Me} {pc cnt : Nat} {ls : Lv} {st r as : List Value} {os : Nat → St} {R : Option Value → Wd → Prop} {n x : Nat} (hf : fetch me.cd pc = some (.invokespecial x, n)) (hx : x = Q.ci) (hme : asc P.ms 0 = some me') (hst : st.drop me'.na = .ref (cnt + 1) :: r) (has : (st.take me'.na).reverse = as)
    (hg : me'.rf + 1 ≤ me.rf ∧ cats r + (me'.ml + 11) + me'.rl ≤ me.rl ∧ nr (st.take me'.na) = true ∧ (cnt + 1) * (P.al.length + 1) ≤ Q.rc ∧ (cnt + 1) * (Q.nf + zs P.al P.al.length) ≤ Q.rs)
    (hq : calV P 0 0 (.ref 0 :: as) (os cnt) fun s' => wpl P Q sc 0 me (pc + 3) ls r (uo os cnt s', cnt + 1, false) R) : wpl P Q sc 0 me pc ls st (os, cnt, true) R := by
  subst has
  obtain ⟨f1, v, s1, h1, rfl, f2, v2, s2, h2, h3⟩ := hq
  refine ⟨max f1 f2 + 1, v2, s2, ?_, h3⟩
  have h1' := ccall_le (Nat.le_max_left f1 f2) h1
  have h2' := lexec_le (Nat.le_max_right f1 f2) h2
  rw [lexec, hf]; dsimp only
  simp only [lstep, hme, hst]
  rw [if_pos ⟨hx, trivial, trivial, trivial, hg⟩, h1']
  exact h2'
theorem wpl_call {P : Cl} {Q : Lw} {sc : Sc} {mi : Nat} {me me' : Me} {pc x m' o : Nat} {ls : Lv} {st r as : List Value} {w : Wd} {R : Option Value → Wd → Prop} {n : Nat} (hf : fetch me.cd pc = some (.invokevirtual x, n)) (hm : asc Q.vx x = some m') (hme : asc P.ms m' = some me') (hst : st.drop me'.na = .ref (o + 1) :: r) (has : (st.take me'.na).reverse = as)
    (hg : m' ≠ 0 ∧ o < w.2.1 ∧ me'.rf + 1 ≤ me.rf ∧ cats r + (me'.ml + 11) + me'.rl ≤ me.rl ∧ nr (st.take me'.na) = true)
    (hq : cal P m' P.al.length (.ref 0 :: as) (w.1 o) fun v s' => wpl P Q sc mi me (pc + 3) ls (v.toList ++ r) (uo w.1 o s', w.2.1, w.2.2) R) : wpl P Q sc mi me pc ls st w R := by
  subst has
  obtain ⟨f1, v, s1, h1, f2, v2, s2, h2, h3⟩ := hq
  refine ⟨max f1 f2 + 1, v2, s2, ?_, h3⟩
  have h1' := ccall_le (Nat.le_max_left f1 f2) h1
  have h2' := lexec_le (Nat.le_max_right f1 f2) h2
  rw [lexec, hf]; dsimp only
  simp only [lstep, hm, hme, hst]
  rw [if_pos hg, h1']
  cases v <;> exact h2'
theorem wpl_stat {P : Cl} {Q : Lw} {sc : Sc} {mi : Nat} {me me' : Me} {pc x m' : Nat} {ls : Lv} {st r as : List Value} {w : Wd} {R : Option Value → Wd → Prop} {n : Nat} (hf : fetch me.cd pc = some (.invokestatic x, n)) (hm : asc Q.sx x = some m') (hme : asc Q.ms m' = some me') (hst : st.drop me'.na = r) (has : (st.take me'.na).reverse = as)
    (hg : m' ≠ 0 ∧ me'.na ≤ st.length ∧ me'.rf + 1 ≤ me.rf ∧ cats r + (me'.ml + 11) + me'.rl ≤ me.rl ∧ nd (st.take me'.na) = true)
    (hq : lal P Q sc m' as w fun v w' => wpl P Q sc mi me (pc + 3) ls (v.toList ++ r) w' R) : wpl P Q sc mi me pc ls st w R := by
  subst has hst
  obtain ⟨f1, v, s1, h1, f2, v2, s2, h2, h3⟩ := hq
  refine ⟨max f1 f2 + 1, v2, s2, ?_, h3⟩
  have h1' := lcall_le (Nat.le_max_left f1 f2) h1
  have h2' := lexec_le (Nat.le_max_right f1 f2) h2
  rw [lexec, hf]; dsimp only
  simp only [lstep, hm, hme]
  rw [if_pos hg]
  simp only [lcall, hme] at h1'
  rw [h1']
  cases v <;> exact h2'
theorem lal_of {P : Cl} {Q : Lw} {sc : Sc} {m' : Nat} {as : List Value} {w : Wd} {R : Option Value → Wd → Prop} {me : Me} {ls : Lv} (hme : asc Q.ms m' = some me) (hl : (layA as).length ≤ me.ml) (hls : lay as me.ml = ls) (h : wpl P Q sc m' me 0 ls [] w R) : lal P Q sc m' as w R := by
  subst hls
  obtain ⟨f, v, s', h1, h2⟩ := h
  refine ⟨f, v, s', ?_, h2⟩
  simp only [lcall, hme]; rw [if_pos hl]; exact h1
theorem lstep_lle {P : Cl} {Q : Lw} {sc : Sc} {mi : Nat} {me : Me} {rt : Option Value → Wd → Rw} {cc : Nat → Nat → List Value → St → Rs} {cl : Nat → List Value → Wd → Rw} {k : Nat → Lv → List Value → Wd → Rw} {i : Instr} {pc : Nat} {ls ls' : Lv} {st : List Value} {w : Wd} {r : Option Value × Wd} (hl : lle ls ls')
    (hk : ∀ pc ls ls' st s, lle ls ls' → k pc ls st s = some r → k pc ls' st s = some r) (h : lstep P Q sc mi me rt cc cl k i pc ls st w = some r) : lstep P Q sc mi me rt cc cl k i pc ls' st w = some r := by
  unfold lstep at h ⊢
  split at h
  all_goals (try dsimp only)
  · split at h
    · split at h
      · rename_i q; rw [if_pos q]; exact hk _ _ _ _ _ hl h
      · cases h
    · cases h
  iterate 3
    · split at h
      · exact hk _ _ _ _ _ hl h
      · cases h
  · split at h
    · rename_i q; rw [if_pos q]; exact hk _ _ _ _ _ hl h
    · cases h
  · split at h
    · cases h
    · split at h
      · split at h
        · rename_i q
          rw [if_pos q]
          split at h
          · exact hk _ _ _ _ _ hl h
          · cases h
        · cases h
      · cases h
  · split at h
    · cases h
    · split at h
      · cases h
      · split at h
        · split at h
          · rename_i q
            rw [if_pos q]
            split at h
            · exact hk _ _ _ _ _ hl h
            · exact hk _ _ _ _ _ hl h
            · cases h
          · cases h
        · cases h
  · split at h
    · cases h
    · split at h
      · cases h
      · split at h
        · rename_i q
          rw [if_pos q]
          split at h
          · exact hk _ _ _ _ _ hl h
          · exact hk _ _ _ _ _ hl h
          · cases h
        · cases h
  · split at h
    · rename_i q; rw [if_pos q]; exact h
    · rename_i q; rw [if_neg q]
      split at h
      · rename_i e
        obtain ⟨l1', q1, q2⟩ := pstep_lle e hl
        rw [q1]; exact hk _ _ _ _ _ q2 h
      · cases h
theorem lexec_lle {P : Cl} {Q : Lw} {sc : Sc} : ∀ f mi me pc ls ls' st w r, lle ls ls' → lexec P Q sc f mi me pc ls st w = some r → lexec P Q sc f mi me pc ls' st w = some r := by
  intro f
  induction f with
  | zero => intro mi me pc ls ls' st w r _ h; cases h
  | succ f ih =>
    intro mi me pc ls ls' st w r hl h
    rw [lexec] at h ⊢
    split at h
    · cases h
    · exact lstep_lle hl (fun pc ls ls' st s hl h => ih _ _ _ _ _ _ _ _ hl h) h
theorem wpl_lle {P : Cl} {Q : Lw} {sc : Sc} {mi : Nat} {me : Me} {pc : Nat} {ls ls' : Lv} {st : List Value} {w : Wd} {R : Option Value → Wd → Prop} (hl : lle' ls ls') (h : wpl P Q sc mi me pc ls st w R) : wpl P Q sc mi me pc ls' st w R := by
  obtain ⟨f, v, s', h1, h2⟩ := h; exact ⟨f, v, s', lexec_lle _ _ _ _ _ _ _ _ _ (lle_of hl) h1, h2⟩
/-! worlds of no, one and two objects -/
def W0 : Wd := (fun _ => s0, 0, false)
def W0p : Wd := (uo (fun _ => s0) 0 s0, 0, true)
def W1 (s : St) : Wd := (uo (fun _ => s0) 0 s, 1, false)
def W1p (s : St) : Wd := (uo (uo (fun _ => s0) 0 s) 1 s0, 1, true)
def W2 (s t : St) : Wd := (uo (uo (fun _ => s0) 0 s) 1 t, 2, false)
theorem uo_uo (f : Nat → St) (o : Nat) (s t : St) : uo (uo f o s) o t = uo f o t := by
  funext i; simp only [uo]; split <;> rfl
theorem uo_swap (f : Nat → St) {o o' : Nat} (h : o ≠ o') (s t : St) : uo (uo f o s) o' t = uo (uo f o' t) o s := by
  funext i; simp only [uo]
  by_cases a : i = o
  · subst a; simp [h]
  · by_cases b : i = o'
    · subst b; simp [Ne.symm h]
    · simp [a, b]
section Worlds
variable {P : Cl} {Q : Lw} {sc : Sc} {mi : Nat} {me me' : Me} {pc x m' : Nat} {ls : Lv} {st r as : List Value} {R : Option Value → Wd → Prop} {n : Nat} {s t : St}
theorem wpl_new0 (hf : fetch me.cd pc = some (.new x, n)) (hx : x = Q.cx) (h1 : 1 * (P.al.length + 1) ≤ Q.rc) (h2 : 1 * (Q.nf + zs P.al P.al.length) ≤ Q.rs) (hq : wpl P Q sc 0 me (pc + 3) ls (.ref 1 :: st) W0p R) : wpl P Q sc 0 me pc ls st W0 R := wpl_new (cnt := 0) hf hx h1 h2 hq
theorem wpl_new1 (hf : fetch me.cd pc = some (.new x, n)) (hx : x = Q.cx) (h1 : 2 * (P.al.length + 1) ≤ Q.rc) (h2 : 2 * (Q.nf + zs P.al P.al.length) ≤ Q.rs) (hq : wpl P Q sc 0 me (pc + 3) ls (.ref 2 :: st) (W1p s) R) : wpl P Q sc 0 me pc ls st (W1 s) R := wpl_new (cnt := 1) hf hx h1 h2 hq
theorem wpl_ctor0 (hf : fetch me.cd pc = some (.invokespecial x, n)) (hx : x = Q.ci) (hme : asc P.ms 0 = some me') (hst : st.drop me'.na = .ref 1 :: r) (has : (st.take me'.na).reverse = as)
    (hg : me'.rf + 1 ≤ me.rf ∧ cats r + (me'.ml + 11) + me'.rl ≤ me.rl ∧ nr (st.take me'.na) = true ∧ 1 * (P.al.length + 1) ≤ Q.rc ∧ 1 * (Q.nf + zs P.al P.al.length) ≤ Q.rs)
    (hq : calV P 0 0 (.ref 0 :: as) s0 fun s' => wpl P Q sc 0 me (pc + 3) ls r (W1 s') R) : wpl P Q sc 0 me pc ls st W0p R := by
  refine wpl_ctor (cnt := 0) hf hx hme hst has hg ?_
  refine calV.mono (show calV P 0 0 (.ref 0 :: as) (uo (fun _ => s0) 0 s0 0) _ from hq) fun s' h => ?_
  rw [uo_uo]; exact h
theorem wpl_ctor1 (hf : fetch me.cd pc = some (.invokespecial x, n)) (hx : x = Q.ci) (hme : asc P.ms 0 = some me') (hst : st.drop me'.na = .ref 2 :: r) (has : (st.take me'.na).reverse = as)
    (hg : me'.rf + 1 ≤ me.rf ∧ cats r + (me'.ml + 11) + me'.rl ≤ me.rl ∧ nr (st.take me'.na) = true ∧ 2 * (P.al.length + 1) ≤ Q.rc ∧ 2 * (Q.nf + zs P.al P.al.length) ≤ Q.rs)
    (hq : calV P 0 0 (.ref 0 :: as) s0 fun s' => wpl P Q sc 0 me (pc + 3) ls r (W2 s s') R) : wpl P Q sc 0 me pc ls st (W1p s) R := by
  refine wpl_ctor (cnt := 1) hf hx hme hst has hg ?_
  refine calV.mono (show calV P 0 0 (.ref 0 :: as) (uo (uo (fun _ => s0) 0 s) 1 s0 1) _ from hq) fun s' h => ?_
  rw [uo_uo]; exact h
theorem wpl_v1 (hf : fetch me.cd pc = some (.invokevirtual x, n)) (hm : asc Q.vx x = some m') (hme : asc P.ms m' = some me') (hst : st.drop me'.na = .ref 1 :: r) (has : (st.take me'.na).reverse = as)
    (hg : m' ≠ 0 ∧ me'.rf + 1 ≤ me.rf ∧ cats r + (me'.ml + 11) + me'.rl ≤ me.rl ∧ nr (st.take me'.na) = true)
    (hq : cal P m' P.al.length (.ref 0 :: as) s fun v s' => wpl P Q sc mi me (pc + 3) ls (v.toList ++ r) (W1 s') R) : wpl P Q sc mi me pc ls st (W1 s) R := by
  refine wpl_call (o := 0) hf hm hme hst has ⟨hg.1, by show 0 < 1; decide, hg.2⟩ ?_
  refine cal.mono (show cal P m' P.al.length (.ref 0 :: as) ((W1 s).1 0) _ from hq) fun v s' h => ?_
  show wpl P Q sc mi me (pc + 3) ls (v.toList ++ r) (uo (uo (fun _ => s0) 0 s) 0 s', 1, false) R
  rw [uo_uo]; exact h
theorem wpl_v2a (hf : fetch me.cd pc = some (.invokevirtual x, n)) (hm : asc Q.vx x = some m') (hme : asc P.ms m' = some me') (hst : st.drop me'.na = .ref 1 :: r) (has : (st.take me'.na).reverse = as)
    (hg : m' ≠ 0 ∧ me'.rf + 1 ≤ me.rf ∧ cats r + (me'.ml + 11) + me'.rl ≤ me.rl ∧ nr (st.take me'.na) = true)
    (hq : cal P m' P.al.length (.ref 0 :: as) s fun v s' => wpl P Q sc mi me (pc + 3) ls (v.toList ++ r) (W2 s' t) R) : wpl P Q sc mi me pc ls st (W2 s t) R := by
  refine wpl_call (o := 0) hf hm hme hst has ⟨hg.1, by show 0 < 2; decide, hg.2⟩ ?_
  refine cal.mono (show cal P m' P.al.length (.ref 0 :: as) ((W2 s t).1 0) _ from hq) fun v s' h => ?_
  show wpl P Q sc mi me (pc + 3) ls (v.toList ++ r) (uo (uo (uo (fun _ => s0) 0 s) 1 t) 0 s', 2, false) R
  rw [uo_swap _ (by decide), uo_uo]; exact h
theorem wpl_v2b (hf : fetch me.cd pc = some (.invokevirtual x, n)) (hm : asc Q.vx x = some m') (hme : asc P.ms m' = some me') (hst : st.drop me'.na = .ref 2 :: r) (has : (st.take me'.na).reverse = as)
    (hg : m' ≠ 0 ∧ me'.rf + 1 ≤ me.rf ∧ cats r + (me'.ml + 11) + me'.rl ≤ me.rl ∧ nr (st.take me'.na) = true)
    (hq : cal P m' P.al.length (.ref 0 :: as) t fun v s' => wpl P Q sc mi me (pc + 3) ls (v.toList ++ r) (W2 s s') R) : wpl P Q sc mi me pc ls st (W2 s t) R := by
  refine wpl_call (o := 1) hf hm hme hst has ⟨hg.1, by show 1 < 2; decide, hg.2⟩ ?_
  refine cal.mono (show cal P m' P.al.length (.ref 0 :: as) ((W2 s t).1 1) _ from hq) fun v s' h => ?_
  show wpl P Q sc mi me (pc + 3) ls (v.toList ++ r) (uo (uo (uo (fun _ => s0) 0 s) 1 t) 1 s', 2, false) R
  rw [uo_uo]; exact h
end Worlds
theorem cal_I {P : Cl} {m' c : Nat} {as : List Value} {s : St} {F : Option Value → St → Prop} (h : calI P m' c as s fun v s' => F (some (.int v)) s') : cal P m' c as s F := cal.mono h fun _ _ ⟨v, e, q⟩ => by subst e; exact q
theorem cal_L {P : Cl} {m' c : Nat} {as : List Value} {s : St} {F : Option Value → St → Prop} (h : calL P m' c as s fun v s' => F (some (.long v)) s') : cal P m' c as s F := cal.mono h fun _ _ ⟨v, e, q⟩ => by subst e; exact q
theorem cal_V {P : Cl} {m' c : Nat} {as : List Value} {s : St} {F : Option Value → St → Prop} (h : calV P m' c as s fun s' => F none s') : cal P m' c as s F := cal.mono h fun _ _ ⟨e, q⟩ => by subst e; exact q
theorem lal_I {P : Cl} {Q : Lw} {sc : Sc} {m' : Nat} {as : List Value} {w : Wd} {F : Option Value → Wd → Prop} (h : lalI P Q sc m' as w fun v w' => F (some (.int v)) w') : lal P Q sc m' as w F := lal.mono h fun _ _ ⟨v, e, q⟩ => by subst e; exact q
theorem lal_L {P : Cl} {Q : Lw} {sc : Sc} {m' : Nat} {as : List Value} {w : Wd} {F : Option Value → Wd → Prop} (h : lalL P Q sc m' as w fun v w' => F (some (.long v)) w') : lal P Q sc m' as w F := lal.mono h fun _ _ ⟨v, e, q⟩ => by subst e; exact q
theorem lal_V {P : Cl} {Q : Lw} {sc : Sc} {m' : Nat} {as : List Value} {w : Wd} {F : Option Value → Wd → Prop} (h : lalV P Q sc m' as w fun w' => F none w') : lal P Q sc m' as w F := lal.mono h fun _ _ ⟨e, q⟩ => by subst e; exact q
end Jvm.LM

namespace Jvm.LM
open Sem ClassFile Op Lib Jvm.Stand Jvm.Free Jvm.LawKit Jvm.RoadKit
/-! rules for the steps that ask something -/
abbrev wpcI (P : Cl) (mi : Nat) (me : Me) (c pc : Nat) (ls : Lv) (st : List Value) (s : St) (Q : Int32 → St → Prop) : Prop := wpc P mi me c pc ls st s fun r s' => ∃ v, r = some (.int v) ∧ Q v s'
abbrev wpcL (P : Cl) (mi : Nat) (me : Me) (c pc : Nat) (ls : Lv) (st : List Value) (s : St) (Q : Int64 → St → Prop) : Prop := wpc P mi me c pc ls st s fun r s' => ∃ v, r = some (.long v) ∧ Q v s'
abbrev wpcV (P : Cl) (mi : Nat) (me : Me) (c pc : Nat) (ls : Lv) (st : List Value) (s : St) (Q : St → Prop) : Prop := wpc P mi me c pc ls st s fun r s' => r = none ∧ Q s'
abbrev wplI (P : Cl) (Q : Lw) (sc : Sc) (mi : Nat) (me : Me) (pc : Nat) (ls : Lv) (st : List Value) (w : Wd) (R : Int32 → Wd → Prop) : Prop := wpl P Q sc mi me pc ls st w fun r w' => ∃ v, r = some (.int v) ∧ R v w'
abbrev wplL (P : Cl) (Q : Lw) (sc : Sc) (mi : Nat) (me : Me) (pc : Nat) (ls : Lv) (st : List Value) (w : Wd) (R : Int64 → Wd → Prop) : Prop := wpl P Q sc mi me pc ls st w fun r w' => ∃ v, r = some (.long v) ∧ R v w'
abbrev wplV (P : Cl) (Q : Lw) (sc : Sc) (mi : Nat) (me : Me) (pc : Nat) (ls : Lv) (st : List Value) (w : Wd) (R : Wd → Prop) : Prop := wpl P Q sc mi me pc ls st w fun r w' => r = none ∧ R w'
section C
variable {P : Cl} {mi : Nat} {me : Me} {c pc a N n : Nat} {ls : Lv} {r : List Value} {s s' : St} {Q : Option Value → St → Prop} {j : Int32}
theorem wpc_ldaI {v : Int32} (hf : fetch me.cd pc = some (.iaload, n)) (ha : P.al[a]? = some (0, N)) (hac : a < c) (hj : inb N j) (hv : gI s (a + 1) (ix j) = v) (hq : wpc P mi me c (pc + 1) ls (.int v :: r) s Q) : wpc P mi me c pc ls (.int j :: .ref (a + 1) :: r) s Q := by
  subst hv; exact wpc_lda hf (Or.inl ⟨rfl, rfl⟩) ha hac hj hq
theorem wpc_ldaZ {v : Int32} (hf : fetch me.cd pc = some (.baload, n)) (ha : P.al[a]? = some (1, N)) (hac : a < c) (hj : inb N j) (hv : gI s (a + 1) (ix j) = v) (hq : wpc P mi me c (pc + 1) ls (.int v :: r) s Q) : wpc P mi me c pc ls (.int j :: .ref (a + 1) :: r) s Q := by
  subst hv; exact wpc_lda hf (Or.inr (Or.inl ⟨rfl, rfl⟩)) ha hac hj hq
theorem wpc_ldaJ {v : Int64} (hf : fetch me.cd pc = some (.laload, n)) (ha : P.al[a]? = some (2, N)) (hac : a < c) (hj : inb N j) (hv : gL s (a + 1) (ix j) = v) (hq : wpc P mi me c (pc + 1) ls (.long v :: r) s Q) : wpc P mi me c pc ls (.int j :: .ref (a + 1) :: r) s Q := by
  subst hv; exact wpc_lda hf (Or.inr (Or.inr ⟨rfl, rfl⟩)) ha hac hj hq
theorem wpc_staI {z : Int32} (hf : fetch me.cd pc = some (.iastore, n)) (ha : P.al[a]? = some (0, N)) (hac : a < c) (hj : inb N j) (hs : sI s (a + 1) (ix j) z = s') (hq : wpc P mi me c (pc + 1) ls r s' Q) : wpc P mi me c pc ls (.int z :: .int j :: .ref (a + 1) :: r) s Q :=
  wpc_sta hf (Or.inl ⟨rfl, rfl, z, rfl, hs.symm⟩) ha hac hj hq
theorem wpc_staZ {z : Int32} (hf : fetch me.cd pc = some (.bastore, n)) (ha : P.al[a]? = some (1, N)) (hac : a < c) (hj : inb N j) (hs : sI s (a + 1) (ix j) (z &&& 1) = s') (hq : wpc P mi me c (pc + 1) ls r s' Q) : wpc P mi me c pc ls (.int z :: .int j :: .ref (a + 1) :: r) s Q :=
  wpc_sta hf (Or.inr (Or.inl ⟨rfl, rfl, z, rfl, hs.symm⟩)) ha hac hj hq
theorem wpc_staJ {z : Int64} (hf : fetch me.cd pc = some (.lastore, n)) (ha : P.al[a]? = some (2, N)) (hac : a < c) (hj : inb N j) (hs : sL s (a + 1) (ix j) z = s') (hq : wpc P mi me c (pc + 1) ls r s' Q) : wpc P mi me c pc ls (.long z :: .int j :: .ref (a + 1) :: r) s Q :=
  wpc_sta hf (Or.inr (Or.inr ⟨rfl, rfl, z, rfl, hs.symm⟩)) ha hac hj hq
theorem wpc_pl {i : Instr} {pc' : Nat} {ls' : Lv} {st st' : List Value} (hf : fetch me.cd pc = some (i, n)) (hi : ∀ (rt : Option Value → St → Rs) cl (k : Nat → Nat → Lv → List Value → St → Rs), cstep P mi me rt cl k i c pc ls st s = match pstep i pc ls st with | some (pc', ls', st') => k c pc' ls' st' s | none => none) (h : pstep i pc ls st = some (pc', ls', st')) (hq : wpc P mi me c pc' ls' st' s Q) : wpc P mi me c pc ls st s Q :=
  wpc_one hf (fun rt cl k => by rw [hi, h]) hq
theorem wpc_idiv {x y : Int32} (hf : fetch me.cd pc = some (.idiv, n)) (hy : ¬ y = 0) (hq : wpc P mi me c (pc + 1) ls (.int (x / y) :: r) s Q) : wpc P mi me c pc ls (.int y :: .int x :: r) s Q :=
  wpc_pl hf (fun _ _ _ => rfl) (by simp only [pstep, qstep]; rw [if_neg hy]) hq
theorem wpc_irem {x y : Int32} (hf : fetch me.cd pc = some (.irem, n)) (hy : ¬ y = 0) (hq : wpc P mi me c (pc + 1) ls (.int (x % y) :: r) s Q) : wpc P mi me c pc ls (.int y :: .int x :: r) s Q :=
  wpc_pl hf (fun _ _ _ => rfl) (by simp only [pstep, qstep]; rw [if_neg hy]) hq
theorem wpc_ldiv {x y : Int64} (hf : fetch me.cd pc = some (.ldiv, n)) (hy : ¬ y = 0) (hq : wpc P mi me c (pc + 1) ls (.long (x / y) :: r) s Q) : wpc P mi me c pc ls (.long y :: .long x :: r) s Q :=
  wpc_pl hf (fun _ _ _ => rfl) (by simp only [pstep, qstep]; rw [if_neg hy]) hq
end C
/-- the roads of a switch: one a value, from l on -/
def TS (x : Int32) (F : Int → Prop) : List Int → Int → Prop
  | [], _ => True
  | o :: r, l => (x.toInt = l → F o) ∧ TS x F r (l + 1)
theorem TS_at {x : Int32} {F : Int → Prop} : ∀ {os : List Int} {l : Int}, TS x F os l → l ≤ x.toInt → x.toInt < l + os.length → ∃ o, os[(x.toInt - l).toNat]? = some o ∧ F o := by
  intro os
  induction os with
  | nil => intro l _ h1 h2; simp at h2; omega
  | cons o r ih =>
    intro l h h1 h2
    by_cases e : x.toInt = l
    · exact ⟨o, by rw [e]; simp, h.1 e⟩
    · obtain ⟨o', q1, q2⟩ := ih h.2 (by omega) (by simp at h2; omega)
      refine ⟨o', ?_, q2⟩
      have : (x.toInt - l).toNat = (x.toInt - (l + 1)).toNat + 1 := by omega
      rw [this]; simpa using q1
theorem tsw_ok {x : Int32} {F : Int → Prop} {pc : Nat} {ls : Lv} {r : List Value} {d lo hi : Int} {offs : Array Int} (hd : 0 ≤ (pc : Int) + d) (ho : ∀ o ∈ offs.toList, 0 ≤ (pc : Int) + o) (hh : hi + 1 = lo + offs.toList.length)
    (h1 : TS x F offs.toList lo) (h2 : (x.toInt < lo ∨ x.toInt > hi) → F d) : ∃ o, F o ∧ pstep (.tableswitch d lo hi offs) pc ls (.int x :: r) = some (jmp pc o, ls, r) := by
  by_cases hx : x.toInt < lo ∨ x.toInt > hi
  · refine ⟨d, h2 hx, ?_⟩
    simp only [pstep, qstep]; rw [if_pos hx, if_pos hd]
  · obtain ⟨o, q1, q2⟩ := TS_at h1 (by omega) (by omega)
    have q3 : offs[(x.toInt - lo).toNat]? = some o := by rw [← Array.getElem?_toList]; exact q1
    refine ⟨o, q2, ?_⟩
    simp only [pstep, qstep]; rw [if_neg hx, q3]; dsimp only; rw [if_pos (ho o (List.mem_of_getElem? q1))]
theorem wpc_tsw {P : Cl} {mi : Nat} {me : Me} {c pc n : Nat} {ls : Lv} {r : List Value} {s : St} {Q : Option Value → St → Prop} {x : Int32} {d lo hi : Int} {offs : Array Int} (hf : fetch me.cd pc = some (.tableswitch d lo hi offs, n)) (hd : 0 ≤ (pc : Int) + d) (ho : ∀ o ∈ offs.toList, 0 ≤ (pc : Int) + o) (hh : hi + 1 = lo + offs.toList.length)
    (h1 : TS x (fun o => wpc P mi me c (jmp pc o) ls r s Q) offs.toList lo) (h2 : (x.toInt < lo ∨ x.toInt > hi) → wpc P mi me c (jmp pc d) ls r s Q) : wpc P mi me c pc ls (.int x :: r) s Q := by
  obtain ⟨o, q1, q2⟩ := tsw_ok (ls := ls) (r := r) hd ho hh h1 h2
  exact wpc_pl hf (fun _ _ _ => rfl) q2 q1
section L
variable {P : Cl} {Q : Lw} {sc : Sc} {mi : Nat} {me : Me} {pc n : Nat} {ls : Lv} {r : List Value} {w : Wd} {R : Option Value → Wd → Prop}
theorem wpl_pl {i : Instr} {pc' : Nat} {ls' : Lv} {st st' : List Value} (hf : fetch me.cd pc = some (i, n)) (hi : isPl i = true) (h : pstep i pc ls st = some (pc', ls', st')) (hq : wpl P Q sc mi me pc' ls' st' w R) : wpl P Q sc mi me pc ls st w R :=
  wpl_one hf (fun rt cc cl k => by rw [lstep_pl hi, h]) hq
theorem wpl_idiv {x y : Int32} (hf : fetch me.cd pc = some (.idiv, n)) (hy : ¬ y = 0) (hq : wpl P Q sc mi me (pc + 1) ls (.int (x / y) :: r) w R) : wpl P Q sc mi me pc ls (.int y :: .int x :: r) w R :=
  wpl_pl hf rfl (by simp only [pstep, qstep]; rw [if_neg hy]) hq
theorem wpl_irem {x y : Int32} (hf : fetch me.cd pc = some (.irem, n)) (hy : ¬ y = 0) (hq : wpl P Q sc mi me (pc + 1) ls (.int (x % y) :: r) w R) : wpl P Q sc mi me pc ls (.int y :: .int x :: r) w R :=
  wpl_pl hf rfl (by simp only [pstep, qstep]; rw [if_neg hy]) hq
theorem wpl_ldiv {x y : Int64} (hf : fetch me.cd pc = some (.ldiv, n)) (hy : ¬ y = 0) (hq : wpl P Q sc mi me (pc + 1) ls (.long (x / y) :: r) w R) : wpl P Q sc mi me pc ls (.long y :: .long x :: r) w R :=
  wpl_pl hf rfl (by simp only [pstep, qstep]; rw [if_neg hy]) hq
theorem wpl_tsw {x : Int32} {d lo hi : Int} {offs : Array Int} (hf : fetch me.cd pc = some (.tableswitch d lo hi offs, n)) (hd : 0 ≤ (pc : Int) + d) (ho : ∀ o ∈ offs.toList, 0 ≤ (pc : Int) + o) (hh : hi + 1 = lo + offs.toList.length)
    (h1 : TS x (fun o => wpl P Q sc mi me (jmp pc o) ls r w R) offs.toList lo) (h2 : (x.toInt < lo ∨ x.toInt > hi) → wpl P Q sc mi me (jmp pc d) ls r w R) : wpl P Q sc mi me pc ls (.int x :: r) w R := by
  obtain ⟨o, q1, q2⟩ := tsw_ok (ls := ls) (r := r) hd ho hh h1 h2
  exact wpl_pl hf rfl q2 q1
end L
/-! the links, by lists -/
def AllA {α : Type} (Q : Nat → α → Prop) : List (Nat × α) → Prop
  | [] => True
  | (a, b) :: r => Q a b ∧ AllA Q r
theorem asc_all {α : Type} {Q : Nat → α → Prop} {l : List (Nat × α)} (h : AllA Q l) : ∀ k v, asc l k = some v → Q k v := by
  induction l with
  | nil => intro k v e; cases e
  | cons x r ih =>
    intro k v e
    obtain ⟨a, b⟩ := x
    simp only [asc] at e
    cases q : Nat.beq a k
    · rw [q] at e; exact ih h.2 k v e
    · rw [q] at e; cases e
      obtain rfl := Nat.eq_of_beq_eq_true q
      exact h.1
def AllL (Q : Nat → Nat → Prop) : List (Nat × Nat) → Prop
  | [] => True
  | (a, b) :: r => Q a b ∧ AllL Q r
theorem lst_all {Q : Nat → Nat → Prop} {l : List (Nat × Nat)} (h : AllL Q l) : ∀ (j tt N : Nat), l[j]? = some (tt, N) → Q tt N := by
  induction l with
  | nil => intro j tt N e; simp at e
  | cons x r ih =>
    intro j tt N e
    obtain ⟨a, b⟩ := x
    cases j with
    | zero => simp at e; obtain ⟨rfl, rfl⟩ := e; exact h.1
    | succ j => simp at e; exact ih h.2 j tt N e
def dst1 (k : Nat) (fe : Fe) : List (Nat × Fe) → Bool
  | [] => true
  | (k', fe') :: r => (!(fe.1 == fe'.1)) && (decide (fe.2.2.1 < 3) || !(Nat.beq fe.2.2.1 fe'.2.2.1)) && dst1 k fe r
def dst : List (Nat × Fe) → Bool
  | [] => true
  | (k, fe) :: r => dst1 k fe r && dst r
theorem dst1_ok {k : Nat} {fe : Fe} {l : List (Nat × Fe)} (h : dst1 k fe l = true) : ∀ k' fe', asc l k' = some fe' → fe.1 ≠ fe'.1 ∧ (3 ≤ fe.2.2.1 → fe.2.2.1 ≠ fe'.2.2.1) := by
  induction l with
  | nil => intro k' fe' e; cases e
  | cons x r ih =>
    intro k' fe' e
    obtain ⟨a, b⟩ := x
    simp only [dst1, Bool.and_eq_true] at h
    obtain ⟨⟨h1, h2⟩, h3⟩ := h
    simp only [asc] at e
    cases q : Nat.beq a k'
    · rw [q] at e; exact ih h3 k' fe' e
    · rw [q] at e; cases e
      refine ⟨fun q2 => by rw [q2] at h1; simp at h1, fun q2 q3 => ?_⟩
      rw [q3] at h2 q2
      simp only [Bool.or_eq_true, decide_eq_true_eq, Bool.not_eq_true'] at h2
      rcases h2 with h2 | h2
      · omega
      · rw [Nat.beq_refl] at h2; cases h2
theorem dst_ok {l : List (Nat × Fe)} (h : dst l = true) : ∀ (k k' : Nat) (fe fe' : Fe), asc l k = some fe → asc l k' = some fe' → k ≠ k' → fe.1 ≠ fe'.1 ∧ (3 ≤ fe.2.2.1 → fe.2.2.1 ≠ fe'.2.2.1) := by
  induction l with
  | nil => intro k k' fe fe' e; cases e
  | cons x r ih =>
    intro k k' fe fe' e e' hne
    obtain ⟨a, b⟩ := x
    simp only [dst, Bool.and_eq_true] at h
    simp only [asc] at e e'
    cases q : Nat.beq a k <;> cases q' : Nat.beq a k' <;> rw [q] at e <;> rw [q'] at e'
    · exact ih h.2 k k' fe fe' e e' hne
    · cases e'
      obtain ⟨h1, h2⟩ := dst1_ok h.1 k fe e
      exact ⟨Ne.symm h1, fun z1 z2 => h2 (z2 ▸ z1) z2.symm⟩
    · cases e; exact dst1_ok h.1 k' fe' e'
    · exact absurd ((Nat.eq_of_beq_eq_true q).symm.trans (Nat.eq_of_beq_eq_true q')) hne
def chk (bytes : ByteArray) : Cd → Bool
  | [] => true
  | (pc, i, n) :: r => (match decode bytes pc with | .ok (i', n') => decide (i' = i ∧ n' = n) | .error _ => false) && (isSw i || Nat.beq n (ilen i)) && chk bytes r
theorem chk_ok {bytes : ByteArray} {cd : Cd} (h : chk bytes cd = true) : ∀ pc i n, fetch cd pc = some (i, n) → decode bytes pc = .ok (i, n) ∧ (isSw i = true ∨ n = ilen i) := by
  induction cd with
  | nil => intro pc i n e; cases e
  | cons x r ih =>
    intro pc i n e
    obtain ⟨a, i', n'⟩ := x
    simp only [chk, Bool.and_eq_true] at h
    obtain ⟨⟨h1, h2⟩, h3⟩ := h
    simp only [fetch] at e
    cases q : Nat.beq a pc
    · rw [q] at e; exact ih h3 pc i n e
    · rw [q] at e; cases e
      obtain rfl := Nat.eq_of_beq_eq_true q
      refine ⟨?_, ?_⟩
      · split at h1
        · rename_i i2 n2 hd
          obtain ⟨rfl, rfl⟩ := of_decide_eq_true h1
          exact hd
        · cases h1
      · simp only [Bool.or_eq_true] at h2
        exact h2.imp id Nat.eq_of_beq_eq_true
/-- the array that the law is handed -/
theorem script_of {s : State} {args : Array Value} {a : Addr} {cl : Cell} {t : Term} {k : Int32} (hf : Fit s) (A : Arr s s.heap a cl .int) (ev : t.eval args s none [] s = some (.ref a)) (hl : (Cond.le (Term.length t) (Term.int k)).value args s none s [] = some true) :
    (cl.slots.size < 2 ^ 31 ∧ (cl.slots.size : Int) ≤ k.toInt) ∧ SRep s s.heap a s.heap.size (some (cl.slots.size, fun i => match cl.slots[i]? with | some (.int x) => x | _ => 0)) := by
  obtain ⟨x, y, h1, h2, -⟩ := cmp_v (Or.inr (Or.inr hl))
  have hz : cl.slots.size < 2 ^ 31 := by
    have q : (Term.length t).eval args s none [] s = if cl.slots.size < 2 ^ 31 then some (.int cl.slots.size.toInt32) else none := by simp [Term.eval, ev, A.fin (Vm.Alike.refl _)]
    rw [h1] at q
    split at q
    · assumption
    · cases q
  have h1' := len_f ev (A.fin (Vm.Alike.refl _)) hz (args := args) (first := s) (o := none) (idx := [])
  have hle := gotT (Cond.le_ints h1' (Term.int_eval k)) hl
  rw [Int32.le_iff_toInt_le, len_toInt hz] at hle
  refine ⟨⟨hz, hle⟩, A.lt, cl, A, rfl, fun i hi => ?_⟩
  have e1 : cl.slots[i]? = some cl.slots[i] := Array.getElem?_eq_getElem hi
  have q := elem_fit hf A (j := i.toInt32) (idx_in hi hz)
  have e2 : i.toInt32.toNatClampNeg = i := by
    have := len_toInt (n := i) (by omega)
    simp only [Int32.toNatClampNeg, this]; rfl
  rw [e2] at q
  obtain ⟨v, hv, hfv⟩ := q
  obtain ⟨x, rfl⟩ := fit_I hfv (Or.inl rfl)
  rw [hv]
  dsimp only
  rw [hv]
end Jvm.LM
namespace Jvm.LM
theorem law_run {P : Cl} {Q : Lw} {sc : Sc} {as : List Value} (h : lalI P Q sc 0 as W0 fun v _ => v = 1) {me : Me} (hme : asc Q.ms 0 = some me) : ∃ f w', lexec P Q sc f 0 me 0 (lay as me.ml) [] W0 = some (some (.int 1), w') := by
  obtain ⟨f, v, w', h1, v', rfl, rfl⟩ := h
  refine ⟨f, w', ?_⟩
  simp only [lcall, hme] at h1
  split at h1
  · exact h1
  · cases h1
end Jvm.LM

namespace Jvm.LM
open Jvm.RoadKit
/-! numbers -/
theorem i32_add {x y : Int32} (h1 : -2147483648 ≤ x.toInt + y.toInt) (h2 : x.toInt + y.toInt < 2147483648) : (x + y).toInt = x.toInt + y.toInt := by
  have := c_iadd x y; have := rng32 (x + y); omega
theorem i32_sub {x y : Int32} (h1 : -2147483648 ≤ x.toInt - y.toInt) (h2 : x.toInt - y.toInt < 2147483648) : (x - y).toInt = x.toInt - y.toInt := by
  have := c_isub x y; have := rng32 (x - y); omega
theorem i32_mul {x y : Int32} (h1 : -2147483648 ≤ x.toInt * y.toInt) (h2 : x.toInt * y.toInt < 2147483648) : (x * y).toInt = x.toInt * y.toInt := by
  have := c_imul x y; have := rng32 (x * y); omega
theorem ix_int {i : Int32} (h : 0 ≤ i.toInt) : (ix i : Int) = i.toInt := by simp only [ix, Int32.toNatClampNeg]; omega
theorem ix_inj {i j : Int32} (hi : 0 ≤ i.toInt) (hj : 0 ≤ j.toInt) : ix i = ix j ↔ i = j := by
  have a := ix_int hi; have b := ix_int hj
  rw [← Int32.toInt_inj]; omega
theorem i32_lt {x y : Int32} : x < y ↔ x.toInt < y.toInt := Int32.lt_iff_toInt_lt
theorem i32_eq {x y : Int32} : x = y ↔ x.toInt = y.toInt := Int32.toInt_inj.symm
/-- a loop that counts up to N: from the next turn to this one -/
theorem loop_up {F : Int32 → Prop} (N : Int) (hN : N < 2147483647) (step : ∀ i, 0 ≤ i.toInt → i.toInt < N → (i + 1).toInt = i.toInt + 1 → F (i + 1) → F i) (last : ∀ i, i.toInt = N → F i) : ∀ i, 0 ≤ i.toInt → i.toInt ≤ N → F i := by
  have key : ∀ n : Nat, ∀ i : Int32, 0 ≤ i.toInt → i.toInt + n = N → F i := by
    intro n
    induction n with
    | zero => intro i h0 h1; exact last i (by omega)
    | succ n ih =>
      intro i h0 h1
      have e : (i + 1).toInt = i.toInt + 1 := i32_add (by simp; omega) (by simp; omega)
      exact step i h0 (by omega) e (ih (i + 1) (by omega) (by omega))
  intro i h0 h1
  exact key (N - i.toInt).toNat i h0 (by omega)
theorem cmpL_lt {x y : Int64} : Jvm.Free.XT.cmpL x y < 0 ↔ x < y := by
  unfold Jvm.Free.XT.cmpL; split
  · rename_i h; exact ⟨fun q => absurd q (by decide), fun q => by rw [Int64.lt_iff_toInt_lt] at h q; omega⟩
  · split
    · rename_i h; subst h; exact ⟨fun q => absurd q (by decide), fun q => by rw [Int64.lt_iff_toInt_lt] at q; omega⟩
    · rename_i h1 h2
      refine ⟨fun _ => ?_, fun _ => by decide⟩
      rw [Int64.lt_iff_toInt_lt] at h1 ⊢; rw [← Int64.toInt_inj] at h2; omega
theorem cmpL_gt {x y : Int64} : 0 < Jvm.Free.XT.cmpL x y ↔ y < x := by
  unfold Jvm.Free.XT.cmpL; split
  · rename_i h; exact ⟨fun _ => h, fun _ => by decide⟩
  · rename_i h; split
    · exact ⟨fun q => absurd q (by decide), fun q => absurd q h⟩
    · exact ⟨fun q => absurd q (by decide), fun q => absurd q h⟩
theorem cmpL_eq {x y : Int64} : Jvm.Free.XT.cmpL x y = 0 ↔ x = y := by
  unfold Jvm.Free.XT.cmpL; split
  · rename_i h; exact ⟨fun q => absurd q (by decide), fun q => by subst q; rw [Int64.lt_iff_toInt_lt] at h; omega⟩
  · split
    · rename_i h; exact ⟨fun _ => h, fun _ => rfl⟩
    · rename_i h1 h2; exact ⟨fun q => absurd q (by decide), fun q => absurd q h2⟩
end Jvm.LM

namespace Jvm.Pilot.@@N@@
open Jvm Jvm.ClassFile Sem Op Lib Jvm.Free Jvm.Stand Jvm.LawKit Jvm.RoadKit Jvm.LM Bundle Jvm.Pilot.@@N@@.Jvm.D
def cm0 : Me := ("<init>", "(III)V", 3, 0, [(0, .aload_n 0, 1), (1, .invokespecial 1, 3), (4, .aload_n 0, 1), (5, .bipush 64, 2), (7, .putfield 7, 3), (10, .aload_n 0, 1), (11, .iconst 4, 1), (12, .putfield 13, 3), (15, .aload_n 0, 1), (16, .bipush 64, 2), (18, .newarray .int, 2), (20, .putfield 16, 3), (23, .aload_n 0, 1), (24, .bipush 64, 2), (26, .newarray .int, 2), (28, .putfield 20, 3), (31, .aload_n 0, 1), (32, .bipush 64, 2), (34, .newarray .int, 2), (36, .putfield 23, 3), (39, .aload_n 0, 1), (40, .bipush 64, 2), (42, .newarray .int, 2), (44, .putfield 26, 3), (47, .aload_n 0, 1), (48, .bipush 64, 2), (50, .newarray .int, 2), (52, .putfield 29, 3), (55, .aload_n 0, 1), (56, .bipush 64, 2), (58, .newarray .int, 2), (60, .putfield 32, 3), (63, .aload_n 0, 1), (64, .bipush 64, 2), (66, .newarray .int, 2), (68, .putfield 35, 3), (71, .aload_n 0, 1), (72, .bipush 64, 2), (74, .newarray .int, 2), (76, .putfield 38, 3), (79, .aload_n 0, 1), (80, .bipush 32, 2), (82, .newarray .int, 2), (84, .putfield 41, 3), (87, .aload_n 0, 1), (88, .iconst 4, 1), (89, .newarray .int, 2), (91, .putfield 44, 3), (94, .aload_n 0, 1), (95, .iconst 4, 1), (96, .newarray .int, 2), (98, .putfield 47, 3), (101, .aload_n 0, 1), (102, .sipush 256, 3), (105, .newarray .boolean, 2), (107, .putfield 50, 3), (110, .aload_n 0, 1), (111, .sipush 256, 3), (114, .newarray .boolean, 2), (116, .putfield 54, 3), (119, .aload_n 0, 1), (120, .sipush 256, 3), (123, .newarray .boolean, 2), (125, .putfield 57, 3), (128, .aload_n 0, 1), (129, .sipush 256, 3), (132, .newarray .int, 2), (134, .putfield 60, 3), (137, .aload_n 0, 1), (138, .sipush 1024, 3), (141, .newarray .int, 2), (143, .putfield 63, 3), (146, .aload_n 0, 1), (147, .aload_n 0, 1), (148, .iload_n 1, 1), (149, .bipush 8, 2), (151, .bipush 64, 2), (153, .invokevirtual 66, 3), (156, .putfield 70, 3), (159, .aload_n 0, 1), (160, .aload_n 0, 1), (161, .iload_n 2, 1), (162, .bipush 8, 2), (164, .bipush 64, 2), (166, .invokevirtual 66, 3), (169, .putfield 73, 3), (172, .aload_n 0, 1), (173, .aload_n 0, 1), (174, .iload_n 3, 1), (175, .bipush 8, 2), (177, .bipush 32, 2), (179, .invokevirtual 66, 3), (182, .putfield 76, 3), (185, .aload_n 0, 1), (186, .iconst 0, 1), (187, .putfield 79, 3), (190, .aload_n 0, 1), (191, .iconst 0, 1), (192, .putfield 82, 3), (195, .iconst 0, 1), (196, .istore 4, 2), (198, .iload 4, 2), (200, .iconst 4, 1), (201, .if_icmp .ge 15, 3), (204, .aload_n 0, 1), (205, .iload 4, 2), (207, .invokevirtual 85, 3), (210, .iinc 4 1, 3), (213, .goto (-15), 3), (216, .return_, 1)], 5, 2, 30)
def cm4 : Me := ("mark", "(IIII)I", 4, 1, [(0, .aload_n 0, 1), (1, .iload_n 1, 1), (2, .iload_n 2, 1), (3, .iload_n 3, 1), (4, .iload 4, 2), (6, .invokevirtual 107, 3), (9, .ifCond .ne 5, 3), (12, .iconst (-1), 1), (13, .ireturn, 1), (14, .iload_n 2, 1), (15, .iconst 4, 1), (16, .irem, 1), (17, .istore 5, 2), (19, .iload_n 2, 1), (20, .iconst 4, 1), (21, .idiv, 1), (22, .istore 6, 2), (24, .aload_n 0, 1), (25, .iload_n 1, 1), (26, .iload_n 3, 1), (27, .invokevirtual 103, 3), (30, .istore 7, 2), (32, .aload_n 0, 1), (33, .iload_n 1, 1), (34, .iload 4, 2), (36, .invokevirtual 103, 3), (39, .istore 8, 2), (41, .iload 7, 2), (43, .ifCond .lt 8, 3), (46, .iload 8, 2), (48, .ifCond .ge 5, 3), (51, .iconst (-1), 1), (52, .ireturn, 1), (53, .iconst 2, 1), (54, .istore 9, 2), (56, .iload 6, 2), (58, .ifCond .ne 6, 3), (61, .iconst 3, 1), (62, .istore 9, 2), (64, .aload_n 0, 1), (65, .iload_n 1, 1), (66, .iload 5, 2), (68, .iload 8, 2), (70, .invokevirtual 111, 3), (73, .istore 10, 2), (75, .aload_n 0, 1), (76, .iload 9, 2), (78, .iload_n 1, 1), (79, .iconst 0, 1), (80, .invokevirtual 93, 3), (83, .istore 11, 2), (85, .aload_n 0, 1), (86, .iload 11, 2), (88, .iload 5, 2), (90, .iconst 3, 1), (91, .iload 7, 2), (93, .imul, 1), (94, .iload 10, 2), (96, .invokevirtual 114, 3), (99, .aload_n 0, 1), (100, .getfield 35, 3), (103, .iload 11, 2), (105, .iload 6, 2), (107, .iastore, 1), (108, .aload_n 0, 1), (109, .iload_n 1, 1), (110, .iload 11, 2), (112, .invokevirtual 96, 3), (115, .iload 11, 2), (117, .ireturn, 1)], 12, 5, 80)
def cm8 : Me := ("sync", "(II)I", 2, 1, [(0, .aload_n 0, 1), (1, .iload_n 1, 1), (2, .invokevirtual 122, 3), (5, .ifCond .ne 5, 3), (8, .iconst (-1), 1), (9, .ireturn, 1), (10, .aload_n 0, 1), (11, .iload_n 2, 1), (12, .invokevirtual 122, 3), (15, .ifCond .ne 5, 3), (18, .iconst (-1), 1), (19, .ireturn, 1), (20, .iload_n 1, 1), (21, .iload_n 2, 1), (22, .if_icmp .ne 5, 3), (25, .iconst (-1), 1), (26, .ireturn, 1), (27, .iconst 0, 1), (28, .istore_n 3, 1), (29, .iconst 0, 1), (30, .istore 4, 2), (32, .iload 4, 2), (34, .aload_n 0, 1), (35, .getfield 79, 3), (38, .if_icmp .ge 40, 3), (41, .aload_n 0, 1), (42, .getfield 50, 3), (45, .aload_n 0, 1), (46, .iload_n 1, 1), (47, .iload 4, 2), (49, .invokevirtual 134, 3), (52, .baload, 1), (53, .ifCond .ne 6, 3), (56, .goto 16, 3), (59, .aload_n 0, 1), (60, .iload_n 2, 1), (61, .iload 4, 2), (63, .invokevirtual 128, 3), (66, .ifCond .eq 6, 3), (69, .iinc 3 1, 3), (72, .iinc 4 1, 3), (75, .goto (-43), 3), (78, .iload_n 3, 1), (79, .ireturn, 1)], 5, 4, 66)
def cm9 : Me := ("render", "(II)I", 2, 1, [(0, .aload_n 0, 1), (1, .iload_n 1, 1), (2, .invokevirtual 122, 3), (5, .ifCond .ne 5, 3), (8, .iconst (-1), 1), (9, .ireturn, 1), (10, .aload_n 0, 1), (11, .iload_n 2, 1), (12, .invokevirtual 137, 3), (15, .ifCond .ne 5, 3), (18, .iconst (-1), 1), (19, .ireturn, 1), (20, .iconst 0, 1), (21, .istore_n 3, 1), (22, .iconst 0, 1), (23, .istore 4, 2), (25, .iload 4, 2), (27, .iconst 4, 1), (28, .if_icmp .ge 20, 3), (31, .iload_n 3, 1), (32, .aload_n 0, 1), (33, .iload_n 1, 1), (34, .iload_n 2, 1), (35, .iload 4, 2), (37, .invokevirtual 140, 3), (40, .iadd, 1), (41, .istore_n 3, 1), (42, .iinc 4 1, 3), (45, .goto (-20), 3), (48, .iload_n 3, 1), (49, .ireturn, 1)], 5, 2, 34)
def cm20 : Me := ("markAllowed", "(IIII)Z", 4, 2, [(0, .aload_n 0, 1), (1, .iload_n 1, 1), (2, .invokevirtual 122, 3), (5, .ifCond .ne 5, 3), (8, .iconst 0, 1), (9, .ireturn, 1), (10, .iload_n 2, 1), (11, .ifCond .lt 10, 3), (14, .iload_n 2, 1), (15, .sipush 1023, 3), (18, .if_icmp .le 5, 3), (21, .iconst 0, 1), (22, .ireturn, 1), (23, .iload_n 2, 1), (24, .iconst 4, 1), (25, .irem, 1), (26, .iconst 2, 1), (27, .if_icmp .eq 12, 3), (30, .iload_n 2, 1), (31, .iconst 4, 1), (32, .idiv, 1), (33, .iconst 1, 1), (34, .if_icmp .le 5, 3), (37, .iconst 0, 1), (38, .ireturn, 1), (39, .iload_n 3, 1), (40, .ifCond .lt 9, 3), (43, .iload_n 3, 1), (44, .iload 4, 2), (46, .if_icmp .le 5, 3), (49, .iconst 0, 1), (50, .ireturn, 1), (51, .iload 4, 2), (53, .aload_n 0, 1), (54, .getfield 47, 3), (57, .iload_n 1, 1), (58, .iaload, 1), (59, .if_icmp .lt 5, 3), (62, .iconst 0, 1), (63, .ireturn, 1), (64, .aload_n 0, 1), (65, .invokevirtual 155, 3), (68, .ireturn, 1)], 5, 1, 13)
def cm21 : Me := ("hasRoom", "()Z", 0, 2, [(0, .aload_n 0, 1), (1, .getfield 79, 3), (4, .aload_n 0, 1), (5, .getfield 73, 3), (8, .if_icmp .lt 5, 3), (11, .iconst 0, 1), (12, .ireturn, 1), (13, .aload_n 0, 1), (14, .getfield 82, 3), (17, .aload_n 0, 1), (18, .getfield 76, 3), (21, .if_icmp .ge 7, 3), (24, .iconst 1, 1), (25, .goto 4, 3), (28, .iconst 0, 1), (29, .ireturn, 1)], 1, 0, 0)
def cm22 : Me := ("validReplica", "(I)Z", 1, 2, [(0, .iload_n 1, 1), (1, .ifCond .lt 12, 3), (4, .iload_n 1, 1), (5, .iconst 4, 1), (6, .if_icmp .ge 7, 3), (9, .iconst 1, 1), (10, .goto 4, 3), (13, .iconst 0, 1), (14, .ireturn, 1)], 2, 0, 0)
def cm23 : Me := ("validSlot", "(I)Z", 1, 2, [(0, .iload_n 1, 1), (1, .ifCond .lt 15, 3), (4, .iload_n 1, 1), (5, .aload_n 0, 1), (6, .getfield 70, 3), (9, .if_icmp .ge 7, 3), (12, .iconst 1, 1), (13, .goto 4, 3), (16, .iconst 0, 1), (17, .ireturn, 1)], 2, 0, 0)
def cm24 : Me := ("validOp", "(I)Z", 1, 2, [(0, .iload_n 1, 1), (1, .ifCond .lt 15, 3), (4, .iload_n 1, 1), (5, .aload_n 0, 1), (6, .getfield 79, 3), (9, .if_icmp .ge 7, 3), (12, .iconst 1, 1), (13, .goto 4, 3), (16, .iconst 0, 1), (17, .ireturn, 1)], 2, 0, 0)
def cm26 : Me := ("createOp", "(III)I", 3, 1, [(0, .aload_n 0, 1), (1, .getfield 79, 3), (4, .istore 4, 2), (6, .aload_n 0, 1), (7, .getfield 44, 3), (10, .iload_n 2, 1), (11, .iaload, 1), (12, .iconst 1, 1), (13, .iadd, 1), (14, .istore 5, 2), (16, .aload_n 0, 1), (17, .getfield 44, 3), (20, .iload_n 2, 1), (21, .iload 5, 2), (23, .iastore, 1), (24, .aload_n 0, 1), (25, .getfield 16, 3), (28, .iload 4, 2), (30, .iload_n 1, 1), (31, .iastore, 1), (32, .aload_n 0, 1), (33, .getfield 20, 3), (36, .iload 4, 2), (38, .iload_n 2, 1), (39, .iastore, 1), (40, .aload_n 0, 1), (41, .getfield 23, 3), (44, .iload 4, 2), (46, .iload 5, 2), (48, .iastore, 1), (49, .aload_n 0, 1), (50, .getfield 38, 3), (53, .iload 4, 2), (55, .iload_n 3, 1), (56, .iastore, 1), (57, .aload_n 0, 1), (58, .iload 4, 2), (60, .iconst 0, 1), (61, .iconst 0, 1), (62, .iconst 0, 1), (63, .invokevirtual 114, 3), (66, .aload_n 0, 1), (67, .getfield 35, 3), (70, .iload 4, 2), (72, .iconst 0, 1), (73, .iastore, 1), (74, .aload_n 0, 1), (75, .iload 4, 2), (77, .iconst 1, 1), (78, .iadd, 1), (79, .putfield 79, 3), (82, .iload 4, 2), (84, .ireturn, 1)], 6, 1, 16)
def cm27 : Me := ("setMarkFields", "(IIII)V", 4, 0, [(0, .aload_n 0, 1), (1, .getfield 26, 3), (4, .iload_n 1, 1), (5, .iload_n 2, 1), (6, .iastore, 1), (7, .aload_n 0, 1), (8, .getfield 29, 3), (11, .iload_n 1, 1), (12, .iload_n 3, 1), (13, .iastore, 1), (14, .aload_n 0, 1), (15, .getfield 32, 3), (18, .iload_n 1, 1), (19, .iload 4, 2), (21, .iastore, 1), (22, .return_, 1)], 5, 0, 0)
def cm28 : Me := ("publish", "(II)V", 2, 0, [(0, .aload_n 0, 1), (1, .iload_n 1, 1), (2, .iload_n 2, 1), (3, .invokevirtual 128, 3), (6, .pop, 1), (7, .aload_n 0, 1), (8, .iload_n 2, 1), (9, .invokevirtual 131, 3), (12, .return_, 1)], 3, 4, 66)
def cm31 : Me := ("greater", "(II)Z", 2, 2, [(0, .aload_n 0, 1), (1, .getfield 23, 3), (4, .iload_n 1, 1), (5, .iaload, 1), (6, .aload_n 0, 1), (7, .getfield 23, 3), (10, .iload_n 2, 1), (11, .iaload, 1), (12, .if_icmp .eq 24, 3), (15, .aload_n 0, 1), (16, .getfield 23, 3), (19, .iload_n 1, 1), (20, .iaload, 1), (21, .aload_n 0, 1), (22, .getfield 23, 3), (25, .iload_n 2, 1), (26, .iaload, 1), (27, .if_icmp .le 7, 3), (30, .iconst 1, 1), (31, .goto 4, 3), (34, .iconst 0, 1), (35, .ireturn, 1), (36, .aload_n 0, 1), (37, .getfield 20, 3), (40, .iload_n 1, 1), (41, .iaload, 1), (42, .aload_n 0, 1), (43, .getfield 20, 3), (46, .iload_n 2, 1), (47, .iaload, 1), (48, .if_icmp .le 7, 3), (51, .iconst 1, 1), (52, .goto 4, 3), (55, .iconst 0, 1), (56, .ireturn, 1)], 3, 0, 0)
def cm32 : Me := ("appendEntry", "(I)V", 1, 0, [(0, .aload_n 0, 1), (1, .getfield 82, 3), (4, .aload_n 0, 1), (5, .getfield 76, 3), (8, .if_icmp .lt 4, 3), (11, .return_, 1), (12, .aload_n 0, 1), (13, .getfield 41, 3), (16, .aload_n 0, 1), (17, .getfield 82, 3), (20, .iload_n 1, 1), (21, .iastore, 1), (22, .aload_n 0, 1), (23, .dup, 1), (24, .getfield 82, 3), (27, .iconst 1, 1), (28, .iadd, 1), (29, .putfield 82, 3), (32, .return_, 1)], 2, 0, 0)
def cm34 : Me := ("applyOp", "(II)Z", 2, 2, [(0, .aload_n 0, 1), (1, .iload_n 1, 1), (2, .invokevirtual 122, 3), (5, .ifCond .eq 11, 3), (8, .aload_n 0, 1), (9, .iload_n 2, 1), (10, .invokevirtual 146, 3), (13, .ifCond .ne 5, 3), (16, .iconst 0, 1), (17, .ireturn, 1), (18, .aload_n 0, 1), (19, .iload_n 1, 1), (20, .iload_n 2, 1), (21, .invokevirtual 134, 3), (24, .istore_n 3, 1), (25, .aload_n 0, 1), (26, .getfield 50, 3), (29, .iload_n 3, 1), (30, .baload, 1), (31, .ifCond .eq 5, 3), (34, .iconst 0, 1), (35, .ireturn, 1), (36, .aload_n 0, 1), (37, .getfield 50, 3), (40, .iload_n 3, 1), (41, .iconst 1, 1), (42, .bastore, 1), (43, .aload_n 0, 1), (44, .getfield 23, 3), (47, .iload_n 2, 1), (48, .iaload, 1), (49, .aload_n 0, 1), (50, .getfield 44, 3), (53, .iload_n 1, 1), (54, .iaload, 1), (55, .if_icmp .le 15, 3), (58, .aload_n 0, 1), (59, .getfield 44, 3), (62, .iload_n 1, 1), (63, .aload_n 0, 1), (64, .getfield 23, 3), (67, .iload_n 2, 1), (68, .iaload, 1), (69, .iastore, 1), (70, .aload_n 0, 1), (71, .getfield 16, 3), (74, .iload_n 2, 1), (75, .iaload, 1), (76, .istore 4, 2), (78, .iload 4, 2), (80, .ifCond .eq 9, 3), (83, .iload 4, 2), (85, .iconst 1, 1), (86, .if_icmp .ne 12, 3), (89, .aload_n 0, 1), (90, .iload_n 1, 1), (91, .iload_n 2, 1), (92, .invokevirtual 159, 3), (95, .goto 9, 3), (98, .aload_n 0, 1), (99, .iload_n 1, 1), (100, .iload_n 2, 1), (101, .invokevirtual 162, 3), (104, .iconst 1, 1), (105, .ireturn, 1)], 5, 3, 50)
def cm36 : Me := ("applyMarkOp", "(II)V", 2, 0, [(0, .aload_n 0, 1), (1, .getfield 29, 3), (4, .iload_n 2, 1), (5, .iaload, 1), (6, .iconst 3, 1), (7, .idiv, 1), (8, .istore_n 3, 1), (9, .iload_n 3, 1), (10, .ifCond .ge 5, 3), (13, .iconst 0, 1), (14, .istore_n 3, 1), (15, .iload_n 3, 1), (16, .istore 4, 2), (18, .iload 4, 2), (20, .aload_n 0, 1), (21, .getfield 70, 3), (24, .if_icmp .ge 50, 3), (27, .iconst 3, 1), (28, .iload 4, 2), (30, .imul, 1), (31, .iconst 1, 1), (32, .iadd, 1), (33, .istore 5, 2), (35, .iload 5, 2), (37, .aload_n 0, 1), (38, .getfield 32, 3), (41, .iload_n 2, 1), (42, .iaload, 1), (43, .if_icmp .lt 6, 3), (46, .goto 28, 3), (49, .iload 5, 2), (51, .aload_n 0, 1), (52, .getfield 29, 3), (55, .iload_n 2, 1), (56, .iaload, 1), (57, .if_icmp .le 11, 3), (60, .aload_n 0, 1), (61, .iload_n 1, 1), (62, .iload 4, 2), (64, .iload_n 2, 1), (65, .invokevirtual 174, 3), (68, .iinc 4 1, 3), (71, .goto (-53), 3), (74, .return_, 1)], 6, 2, 33)
def cm37 : Me := ("offerWinner", "(III)V", 3, 0, [(0, .aload_n 0, 1), (1, .getfield 26, 3), (4, .iload_n 3, 1), (5, .iaload, 1), (6, .istore 4, 2), (8, .iload 4, 2), (10, .ifCond .lt 9, 3), (13, .iload 4, 2), (15, .iconst 4, 1), (16, .if_icmp .lt 4, 3), (19, .return_, 1), (20, .aload_n 0, 1), (21, .iload_n 1, 1), (22, .iload_n 2, 1), (23, .iload 4, 2), (25, .invokevirtual 178, 3), (28, .istore 5, 2), (30, .aload_n 0, 1), (31, .getfield 63, 3), (34, .iload 5, 2), (36, .iaload, 1), (37, .iconst 1, 1), (38, .isub, 1), (39, .istore 6, 2), (41, .iload 6, 2), (43, .ifCond .lt 13, 3), (46, .aload_n 0, 1), (47, .iload_n 3, 1), (48, .iload 6, 2), (50, .invokevirtual 181, 3), (53, .ifCond .eq 13, 3), (56, .aload_n 0, 1), (57, .getfield 63, 3), (60, .iload 5, 2), (62, .iload_n 3, 1), (63, .iconst 1, 1), (64, .iadd, 1), (65, .iastore, 1), (66, .return_, 1)], 7, 1, 15)
def cm39 : Me := ("resetReplica", "(I)V", 1, 0, [(0, .aload_n 0, 1), (1, .getfield 44, 3), (4, .iload_n 1, 1), (5, .iconst 0, 1), (6, .iastore, 1), (7, .iconst 0, 1), (8, .istore_n 2, 1), (9, .iconst 0, 1), (10, .istore_n 3, 1), (11, .iload_n 3, 1), (12, .aload_n 0, 1), (13, .getfield 70, 3), (16, .if_icmp .ge 24, 3), (19, .aload_n 0, 1), (20, .getfield 60, 3), (23, .aload_n 0, 1), (24, .iload_n 1, 1), (25, .iload_n 2, 1), (26, .invokevirtual 184, 3), (29, .iload_n 3, 1), (30, .iastore, 1), (31, .iinc 2 1, 3), (34, .iinc 3 2, 3), (37, .goto (-26), 3), (40, .aload_n 0, 1), (41, .getfield 47, 3), (44, .iload_n 1, 1), (45, .iload_n 2, 1), (46, .iastore, 1), (47, .return_, 1)], 4, 1, 15)
def cm40 : Me := ("slotAtPosition", "(II)I", 2, 1, [(0, .iload_n 2, 1), (1, .ifCond .lt 13, 3), (4, .iload_n 2, 1), (5, .aload_n 0, 1), (6, .getfield 47, 3), (9, .iload_n 1, 1), (10, .iaload, 1), (11, .if_icmp .lt 5, 3), (14, .iconst (-1), 1), (15, .ireturn, 1), (16, .aload_n 0, 1), (17, .getfield 60, 3), (20, .aload_n 0, 1), (21, .iload_n 1, 1), (22, .iload_n 2, 1), (23, .invokevirtual 184, 3), (26, .iaload, 1), (27, .ireturn, 1)], 3, 1, 15)
def cm44 : Me := ("markEnd", "(III)I", 3, 1, [(0, .iload_n 2, 1), (1, .ifCond .eq 8, 3), (4, .iload_n 2, 1), (5, .iconst 1, 1), (6, .if_icmp .ne 28, 3), (9, .aload_n 0, 1), (10, .iload_n 1, 1), (11, .iload_n 3, 1), (12, .invokevirtual 187, 3), (15, .istore 4, 2), (17, .iload 4, 2), (19, .ifCond .ge 10, 3), (22, .iconst 3, 1), (23, .aload_n 0, 1), (24, .getfield 70, 3), (27, .imul, 1), (28, .ireturn, 1), (29, .iconst 3, 1), (30, .iload 4, 2), (32, .imul, 1), (33, .ireturn, 1), (34, .iconst 3, 1), (35, .iload_n 3, 1), (36, .imul, 1), (37, .iconst 2, 1), (38, .iadd, 1), (39, .ireturn, 1)], 5, 0, 0)
def cm45 : Me := ("renderType", "(III)I", 3, 1, [(0, .aload_n 0, 1), (1, .getfield 63, 3), (4, .aload_n 0, 1), (5, .iload_n 1, 1), (6, .iload_n 2, 1), (7, .iload_n 3, 1), (8, .invokevirtual 178, 3), (11, .iaload, 1), (12, .iconst 1, 1), (13, .isub, 1), (14, .istore 4, 2), (16, .iload 4, 2), (18, .ifCond .ge 5, 3), (21, .iconst 0, 1), (22, .ireturn, 1), (23, .aload_n 0, 1), (24, .getfield 16, 3), (27, .iload 4, 2), (29, .iaload, 1), (30, .iconst 2, 1), (31, .if_icmp .eq 5, 3), (34, .iconst 0, 1), (35, .ireturn, 1), (36, .aload_n 0, 1), (37, .iload_n 3, 1), (38, .invokevirtual 190, 3), (41, .istore 5, 2), (43, .iload_n 3, 1), (44, .iconst 2, 1), (45, .if_icmp .ne 18, 3), (48, .iload 5, 2), (50, .aload_n 0, 1), (51, .getfield 35, 3), (54, .iload 4, 2), (56, .iaload, 1), (57, .bipush 8, 2), (59, .ishl, 1), (60, .iadd, 1), (61, .istore 5, 2), (63, .iload 5, 2), (65, .ireturn, 1)], 6, 1, 16)
def cm46 : Me := ("typeBit", "(I)I", 1, 1, [(0, .iload_n 1, 1), (1, .ifCond .ne 5, 3), (4, .iconst 1, 1), (5, .ireturn, 1), (6, .iload_n 1, 1), (7, .iconst 1, 1), (8, .if_icmp .ne 5, 3), (11, .iconst 2, 1), (12, .ireturn, 1), (13, .iload_n 1, 1), (14, .iconst 2, 1), (15, .if_icmp .ne 5, 3), (18, .iconst 4, 1), (19, .ireturn, 1), (20, .bipush 8, 2), (22, .ireturn, 1)], 2, 0, 0)
def cm47 : Me := ("appIdx", "(II)I", 2, 1, [(0, .iload_n 1, 1), (1, .bipush 64, 2), (3, .imul, 1), (4, .iload_n 2, 1), (5, .iadd, 1), (6, .ireturn, 1)], 3, 0, 0)
def cm49 : Me := ("listIdx", "(II)I", 2, 1, [(0, .iload_n 1, 1), (1, .bipush 64, 2), (3, .imul, 1), (4, .iload_n 2, 1), (5, .iadd, 1), (6, .ireturn, 1)], 3, 0, 0)
def cm50 : Me := ("winIdx", "(III)I", 3, 1, [(0, .iload_n 1, 1), (1, .bipush 64, 2), (3, .imul, 1), (4, .iload_n 2, 1), (5, .iadd, 1), (6, .iconst 4, 1), (7, .imul, 1), (8, .iload_n 3, 1), (9, .iadd, 1), (10, .ireturn, 1)], 4, 0, 0)
def cm51 : Me := ("clamp", "(III)I", 3, 1, [(0, .iload_n 1, 1), (1, .iload_n 2, 1), (2, .if_icmp .ge 5, 3), (5, .iload_n 2, 1), (6, .ireturn, 1), (7, .iload_n 1, 1), (8, .iload_n 3, 1), (9, .if_icmp .le 5, 3), (12, .iload_n 3, 1), (13, .ireturn, 1), (14, .iload_n 1, 1), (15, .ireturn, 1)], 4, 0, 0)
def PP : Cl := ("FormatMarks", [(26, ("stride", "I", 0, true)), (27, ("typeCount", "I", 0, true)), (28, ("slotCount", "I", 0, false)), (29, ("opCapacity", "I", 0, false)), (30, ("poolLimit", "I", 0, false)), (31, ("opTotal", "I", 0, false)), (32, ("opKind", "[I", 3, true)), (33, ("opReplica", "[I", 4, true)), (34, ("opCounter", "[I", 5, true)), (35, ("opType", "[I", 6, true)), (36, ("opStart", "[I", 7, true)), (37, ("opEnd", "[I", 8, true)), (38, ("opValue", "[I", 9, true)), (39, ("opSlot", "[I", 10, true)), (40, ("poolCount", "I", 0, false)), (41, ("pool", "[I", 11, true)), (42, ("clocks", "[I", 12, true)), (43, ("visibleSlots", "[I", 13, true)), (44, ("applied", "[Z", 14, true)), (45, ("insertedAt", "[Z", 15, true)), (46, ("erasedAt", "[Z", 16, true)), (47, ("visList", "[I", 17, true)), (48, ("winner", "[I", 18, true))], [(0, 64), (0, 64), (0, 64), (0, 64), (0, 64), (0, 64), (0, 64), (0, 64), (0, 32), (0, 4), (0, 4), (1, 256), (1, 256), (1, 256), (0, 256), (0, 1024)], [(7, 26), (13, 27), (16, 32), (20, 33), (23, 34), (26, 35), (29, 36), (32, 37), (35, 38), (38, 39), (41, 41), (44, 42), (47, 43), (50, 44), (54, 45), (57, 46), (60, 47), (63, 48), (70, 28), (73, 29), (76, 30), (79, 31), (82, 40)], [(66, 51), (85, 39), (93, 26), (96, 28), (103, 40), (107, 20), (111, 44), (114, 27), (122, 22), (128, 34), (131, 32), (134, 47), (137, 23), (140, 45), (146, 24), (155, 21), (162, 36), (174, 37), (178, 50), (181, 31), (184, 49), (190, 46)], [], [(0, cm0), (4, cm4), (8, cm8), (9, cm9), (20, cm20), (21, cm21), (22, cm22), (23, cm23), (24, cm24), (26, cm26), (27, cm27), (28, cm28), (31, cm31), (32, cm32), (34, cm34), (36, cm36), (37, cm37), (39, cm39), (40, cm40), (44, cm44), (45, cm45), (46, cm46), (47, cm47), (49, cm49), (50, cm50), (51, cm51)], 1)
def lm0 : Me := ("law", "(IIIIII)Z", 6, 2, [(0, .new 7, 3), (3, .dup, 1), (4, .bipush 8, 2), (6, .bipush 8, 2), (8, .bipush 8, 2), (10, .invokespecial 9, 3), (13, .astore 6, 2), (15, .iload_n 0, 1), (16, .sipush 255, 3), (19, .iand, 1), (20, .istore 7, 2), (22, .iload_n 3, 1), (23, .sipush 255, 3), (26, .iand, 1), (27, .istore 8, 2), (29, .iconst 0, 1), (30, .iload_n 1, 1), (31, .if_icmp .gt 17, 3), (34, .iload_n 1, 1), (35, .iload_n 2, 1), (36, .if_icmp .gt 12, 3), (39, .iload_n 2, 1), (40, .iconst 4, 1), (41, .if_icmp .ge 7, 3), (44, .iconst 1, 1), (45, .goto 4, 3), (48, .iconst 0, 1), (49, .istore 9, 2), (51, .iconst 0, 1), (52, .iload 4, 2), (54, .if_icmp .gt 20, 3), (57, .iload 4, 2), (59, .iload 5, 2), (61, .if_icmp .gt 13, 3), (64, .iload 5, 2), (66, .iconst 4, 1), (67, .if_icmp .ge 7, 3), (70, .iconst 1, 1), (71, .goto 4, 3), (74, .iconst 0, 1), (75, .istore 10, 2), (77, .aload 6, 2), (79, .iconst 0, 1), (80, .iconst 2, 1), (81, .iconst 4, 1), (82, .iload 7, 2), (84, .imul, 1), (85, .iadd, 1), (86, .iload_n 1, 1), (87, .iload_n 2, 1), (88, .invokevirtual 12, 3), (91, .istore 11, 2), (93, .iload 11, 2), (95, .iload 9, 2), (97, .ifCond .eq 7, 3), (100, .iconst 0, 1), (101, .goto 4, 3), (104, .iconst (-1), 1), (105, .if_icmp .eq 5, 3), (108, .iconst 0, 1), (109, .ireturn, 1), (110, .aload 6, 2), (112, .iconst 1, 1), (113, .iconst 2, 1), (114, .iconst 4, 1), (115, .iload 8, 2), (117, .imul, 1), (118, .iadd, 1), (119, .iload 4, 2), (121, .iload 5, 2), (123, .invokevirtual 12, 3), (126, .istore 12, 2), (128, .iload 12, 2), (130, .iload 10, 2), (132, .ifCond .eq 16, 3), (135, .iload 9, 2), (137, .ifCond .eq 7, 3), (140, .iconst 1, 1), (141, .goto 8, 3), (144, .iconst 0, 1), (145, .goto 4, 3), (148, .iconst (-1), 1), (149, .if_icmp .eq 5, 3), (152, .iconst 0, 1), (153, .ireturn, 1), (154, .aload 6, 2), (156, .iconst 0, 1), (157, .iconst 1, 1), (158, .invokevirtual 16, 3), (161, .iload 9, 2), (163, .ifCond .eq 7, 3), (166, .iconst 1, 1), (167, .goto 4, 3), (170, .iconst 0, 1), (171, .if_icmp .eq 5, 3), (174, .iconst 0, 1), (175, .ireturn, 1), (176, .aload 6, 2), (178, .iconst 1, 1), (179, .iconst 0, 1), (180, .invokevirtual 16, 3), (183, .iload 10, 2), (185, .ifCond .eq 7, 3), (188, .iconst 1, 1), (189, .goto 4, 3), (192, .iconst 0, 1), (193, .if_icmp .eq 5, 3), (196, .iconst 0, 1), (197, .ireturn, 1), (198, .iconst 0, 1), (199, .istore 13, 2), (201, .iload 13, 2), (203, .bipush 8, 2), (205, .if_icmp .ge 149, 3), (208, .iload 9, 2), (210, .ifCond .eq 23, 3), (213, .iconst 2, 1), (214, .iload_n 1, 1), (215, .imul, 1), (216, .iload 13, 2), (218, .if_icmp .gt 15, 3), (221, .iload 13, 2), (223, .iconst 2, 1), (224, .iload_n 2, 1), (225, .imul, 1), (226, .if_icmp .gt 7, 3), (229, .iconst 1, 1), (230, .goto 4, 3), (233, .iconst 0, 1), (234, .istore 14, 2), (236, .iload 10, 2), (238, .ifCond .eq 25, 3), (241, .iconst 2, 1), (242, .iload 4, 2), (244, .imul, 1), (245, .iload 13, 2), (247, .if_icmp .gt 16, 3), (250, .iload 13, 2), (252, .iconst 2, 1), (253, .iload 5, 2), (255, .imul, 1), (256, .if_icmp .gt 7, 3), (259, .iconst 1, 1), (260, .goto 4, 3), (263, .iconst 0, 1), (264, .istore 15, 2), (266, .iconst 0, 1), (267, .istore 16, 2), (269, .iload 15, 2), (271, .ifCond .eq 24, 3), (274, .iload 8, 2), (276, .ifCond .ne 7, 3), (279, .iconst 0, 1), (280, .goto 10, 3), (283, .iconst 4, 1), (284, .iload 8, 2), (286, .bipush 8, 2), (288, .ishl, 1), (289, .iadd, 1), (290, .istore 16, 2), (292, .goto 26, 3), (295, .iload 14, 2), (297, .ifCond .eq 21, 3), (300, .iload 7, 2), (302, .ifCond .ne 7, 3), (305, .iconst 0, 1), (306, .goto 10, 3), (309, .iconst 4, 1), (310, .iload 7, 2), (312, .bipush 8, 2), (314, .ishl, 1), (315, .iadd, 1), (316, .istore 16, 2), (318, .aload 6, 2), (320, .iconst 0, 1), (321, .iload 13, 2), (323, .invokevirtual 20, 3), (326, .iload 16, 2), (328, .if_icmp .eq 5, 3), (331, .iconst 0, 1), (332, .ireturn, 1), (333, .aload 6, 2), (335, .iconst 1, 1), (336, .iload 13, 2), (338, .invokevirtual 20, 3), (341, .iload 16, 2), (343, .if_icmp .eq 5, 3), (346, .iconst 0, 1), (347, .ireturn, 1), (348, .iinc 13 1, 3), (351, .goto (-150), 3), (354, .iconst 1, 1), (355, .ireturn, 1)], 17, 9, 224)
def QQ : Lw := ("FormatMarksL3", [], [(12, 4), (16, 8), (20, 9)], 9, 7, 23, [], [(0, lm0)], 48, 5312)
set_option maxRecDepth 100000
theorem dk_c0 : chk prog_1_method_1_code cm0.cd = true := by decide +kernel
theorem dk_c51 : chk prog_1_method_51_code cm51.cd = true := by decide +kernel
theorem dk_c39 : chk prog_1_method_39_code cm39.cd = true := by decide +kernel
theorem dk_c49 : chk prog_1_method_49_code cm49.cd = true := by decide +kernel
theorem dk_c4 : chk prog_1_method_4_code cm4.cd = true := by decide +kernel
theorem dk_c20 : chk prog_1_method_20_code cm20.cd = true := by decide +kernel
theorem dk_c22 : chk prog_1_method_22_code cm22.cd = true := by decide +kernel
theorem dk_c21 : chk prog_1_method_21_code cm21.cd = true := by decide +kernel
theorem dk_c40 : chk prog_1_method_40_code cm40.cd = true := by decide +kernel
theorem dk_c44 : chk prog_1_method_44_code cm44.cd = true := by decide +kernel
theorem dk_c26 : chk prog_1_method_26_code cm26.cd = true := by decide +kernel
theorem dk_c27 : chk prog_1_method_27_code cm27.cd = true := by decide +kernel
theorem dk_c28 : chk prog_1_method_28_code cm28.cd = true := by decide +kernel
theorem dk_c34 : chk prog_1_method_34_code cm34.cd = true := by decide +kernel
theorem dk_c24 : chk prog_1_method_24_code cm24.cd = true := by decide +kernel
theorem dk_c47 : chk prog_1_method_47_code cm47.cd = true := by decide +kernel
theorem dk_c36 : chk prog_1_method_36_code cm36.cd = true := by decide +kernel
theorem dk_c37 : chk prog_1_method_37_code cm37.cd = true := by decide +kernel
theorem dk_c50 : chk prog_1_method_50_code cm50.cd = true := by decide +kernel
theorem dk_c32 : chk prog_1_method_32_code cm32.cd = true := by decide +kernel
theorem dk_c8 : chk prog_1_method_8_code cm8.cd = true := by decide +kernel
theorem dk_c9 : chk prog_1_method_9_code cm9.cd = true := by decide +kernel
theorem dk_c23 : chk prog_1_method_23_code cm23.cd = true := by decide +kernel
theorem dk_c45 : chk prog_1_method_45_code cm45.cd = true := by decide +kernel
theorem dk_c46 : chk prog_1_method_46_code cm46.cd = true := by decide +kernel
theorem dk_c31 : chk prog_1_method_31_code cm31.cd = true := by decide +kernel
theorem dk_l0 : chk code lm0.cd = true := by decide +kernel
theorem pk_c0 : parseMethodDescriptor "(III)V" = some ⟨[.int, .int, .int], none⟩ := by decide +kernel
theorem pk_c51 : parseMethodDescriptor "(III)I" = some ⟨[.int, .int, .int], some .int⟩ := by decide +kernel
theorem pk_c39 : parseMethodDescriptor "(I)V" = some ⟨[.int], none⟩ := by decide +kernel
theorem pk_c49 : parseMethodDescriptor "(II)I" = some ⟨[.int, .int], some .int⟩ := by decide +kernel
theorem pk_c4 : parseMethodDescriptor "(IIII)I" = some ⟨[.int, .int, .int, .int], some .int⟩ := by decide +kernel
theorem pk_c20 : parseMethodDescriptor "(IIII)Z" = some ⟨[.int, .int, .int, .int], some .boolean⟩ := by decide +kernel
theorem pk_c22 : parseMethodDescriptor "(I)Z" = some ⟨[.int], some .boolean⟩ := by decide +kernel
theorem pk_c21 : parseMethodDescriptor "()Z" = some ⟨[], some .boolean⟩ := by decide +kernel
theorem pk_c40 : parseMethodDescriptor "(II)I" = some ⟨[.int, .int], some .int⟩ := by decide +kernel
theorem pk_c44 : parseMethodDescriptor "(III)I" = some ⟨[.int, .int, .int], some .int⟩ := by decide +kernel
theorem pk_c26 : parseMethodDescriptor "(III)I" = some ⟨[.int, .int, .int], some .int⟩ := by decide +kernel
theorem pk_c27 : parseMethodDescriptor "(IIII)V" = some ⟨[.int, .int, .int, .int], none⟩ := by decide +kernel
theorem pk_c28 : parseMethodDescriptor "(II)V" = some ⟨[.int, .int], none⟩ := by decide +kernel
theorem pk_c34 : parseMethodDescriptor "(II)Z" = some ⟨[.int, .int], some .boolean⟩ := by decide +kernel
theorem pk_c24 : parseMethodDescriptor "(I)Z" = some ⟨[.int], some .boolean⟩ := by decide +kernel
theorem pk_c47 : parseMethodDescriptor "(II)I" = some ⟨[.int, .int], some .int⟩ := by decide +kernel
theorem pk_c36 : parseMethodDescriptor "(II)V" = some ⟨[.int, .int], none⟩ := by decide +kernel
theorem pk_c37 : parseMethodDescriptor "(III)V" = some ⟨[.int, .int, .int], none⟩ := by decide +kernel
theorem pk_c50 : parseMethodDescriptor "(III)I" = some ⟨[.int, .int, .int], some .int⟩ := by decide +kernel
theorem pk_c32 : parseMethodDescriptor "(I)V" = some ⟨[.int], none⟩ := by decide +kernel
theorem pk_c8 : parseMethodDescriptor "(II)I" = some ⟨[.int, .int], some .int⟩ := by decide +kernel
theorem pk_c9 : parseMethodDescriptor "(II)I" = some ⟨[.int, .int], some .int⟩ := by decide +kernel
theorem pk_c23 : parseMethodDescriptor "(I)Z" = some ⟨[.int], some .boolean⟩ := by decide +kernel
theorem pk_c45 : parseMethodDescriptor "(III)I" = some ⟨[.int, .int, .int], some .int⟩ := by decide +kernel
theorem pk_c46 : parseMethodDescriptor "(I)I" = some ⟨[.int], some .int⟩ := by decide +kernel
theorem pk_c31 : parseMethodDescriptor "(II)Z" = some ⟨[.int, .int], some .boolean⟩ := by decide +kernel
theorem lkC (Z : State) (a0 : Array Value) (hw : ∀ d ∈ tables_1, d.before a0 Z = true) : LinkC PP Z a0 :=
  ⟨⟨⟨23, (hw _ (List.mem_of_getElem? (i := 1) rfl))⟩, (hw _ (List.mem_of_getElem? (i := 2) rfl))⟩,
   asc_all (⟨by intro z h; obtain rfl : ("stride", "I", 0, true) = z := Option.some.inj h; exact (hw _ (List.mem_of_getElem? (i := 9) rfl)), by intro z h; obtain rfl : ("typeCount", "I", 0, true) = z := Option.some.inj h; exact (hw _ (List.mem_of_getElem? (i := 11) rfl)), by intro z h; obtain rfl : ("opKind", "[I", 3, true) = z := Option.some.inj h; exact (hw _ (List.mem_of_getElem? (i := 14) rfl)), by intro z h; obtain rfl : ("opReplica", "[I", 4, true) = z := Option.some.inj h; exact (hw _ (List.mem_of_getElem? (i := 16) rfl)), by intro z h; obtain rfl : ("opCounter", "[I", 5, true) = z := Option.some.inj h; exact (hw _ (List.mem_of_getElem? (i := 18) rfl)), by intro z h; obtain rfl : ("opType", "[I", 6, true) = z := Option.some.inj h; exact (hw _ (List.mem_of_getElem? (i := 20) rfl)), by intro z h; obtain rfl : ("opStart", "[I", 7, true) = z := Option.some.inj h; exact (hw _ (List.mem_of_getElem? (i := 22) rfl)), by intro z h; obtain rfl : ("opEnd", "[I", 8, true) = z := Option.some.inj h; exact (hw _ (List.mem_of_getElem? (i := 24) rfl)), by intro z h; obtain rfl : ("opValue", "[I", 9, true) = z := Option.some.inj h; exact (hw _ (List.mem_of_getElem? (i := 26) rfl)), by intro z h; obtain rfl : ("opSlot", "[I", 10, true) = z := Option.some.inj h; exact (hw _ (List.mem_of_getElem? (i := 28) rfl)), by intro z h; obtain rfl : ("pool", "[I", 11, true) = z := Option.some.inj h; exact (hw _ (List.mem_of_getElem? (i := 30) rfl)), by intro z h; obtain rfl : ("clocks", "[I", 12, true) = z := Option.some.inj h; exact (hw _ (List.mem_of_getElem? (i := 32) rfl)), by intro z h; obtain rfl : ("visibleSlots", "[I", 13, true) = z := Option.some.inj h; exact (hw _ (List.mem_of_getElem? (i := 34) rfl)), by intro z h; obtain rfl : ("applied", "[Z", 14, true) = z := Option.some.inj h; exact (hw _ (List.mem_of_getElem? (i := 37) rfl)), by intro z h; obtain rfl : ("insertedAt", "[Z", 15, true) = z := Option.some.inj h; exact (hw _ (List.mem_of_getElem? (i := 39) rfl)), by intro z h; obtain rfl : ("erasedAt", "[Z", 16, true) = z := Option.some.inj h; exact (hw _ (List.mem_of_getElem? (i := 41) rfl)), by intro z h; obtain rfl : ("visList", "[I", 17, true) = z := Option.some.inj h; exact (hw _ (List.mem_of_getElem? (i := 43) rfl)), by intro z h; obtain rfl : ("winner", "[I", 18, true) = z := Option.some.inj h; exact (hw _ (List.mem_of_getElem? (i := 45) rfl)), by intro z h; obtain rfl : ("slotCount", "I", 0, false) = z := Option.some.inj h; exact (hw _ (List.mem_of_getElem? (i := 51) rfl)), by intro z h; obtain rfl : ("opCapacity", "I", 0, false) = z := Option.some.inj h; exact (hw _ (List.mem_of_getElem? (i := 53) rfl)), by intro z h; obtain rfl : ("poolLimit", "I", 0, false) = z := Option.some.inj h; exact (hw _ (List.mem_of_getElem? (i := 55) rfl)), by intro z h; obtain rfl : ("opTotal", "I", 0, false) = z := Option.some.inj h; exact (hw _ (List.mem_of_getElem? (i := 57) rfl)), by intro z h; obtain rfl : ("poolCount", "I", 0, false) = z := Option.some.inj h; exact (hw _ (List.mem_of_getElem? (i := 59) rfl)), trivial⟩),
   asc_all (⟨(hw _ (List.mem_of_getElem? (i := 10) rfl)), (hw _ (List.mem_of_getElem? (i := 12) rfl)), (hw _ (List.mem_of_getElem? (i := 52) rfl)), (hw _ (List.mem_of_getElem? (i := 54) rfl)), (hw _ (List.mem_of_getElem? (i := 56) rfl)), (hw _ (List.mem_of_getElem? (i := 58) rfl)), (hw _ (List.mem_of_getElem? (i := 15) rfl)), (hw _ (List.mem_of_getElem? (i := 17) rfl)), (hw _ (List.mem_of_getElem? (i := 19) rfl)), (hw _ (List.mem_of_getElem? (i := 21) rfl)), (hw _ (List.mem_of_getElem? (i := 23) rfl)), (hw _ (List.mem_of_getElem? (i := 25) rfl)), (hw _ (List.mem_of_getElem? (i := 27) rfl)), (hw _ (List.mem_of_getElem? (i := 29) rfl)), (hw _ (List.mem_of_getElem? (i := 60) rfl)), (hw _ (List.mem_of_getElem? (i := 31) rfl)), (hw _ (List.mem_of_getElem? (i := 33) rfl)), (hw _ (List.mem_of_getElem? (i := 35) rfl)), (hw _ (List.mem_of_getElem? (i := 38) rfl)), (hw _ (List.mem_of_getElem? (i := 40) rfl)), (hw _ (List.mem_of_getElem? (i := 42) rfl)), (hw _ (List.mem_of_getElem? (i := 44) rfl)), (hw _ (List.mem_of_getElem? (i := 46) rfl)), trivial⟩),
   asc_all (⟨(by decide +kernel), (by decide +kernel), (by decide +kernel), (by decide +kernel), (by decide +kernel), (by decide +kernel), (by decide +kernel), (by decide +kernel), (by decide +kernel), (by decide +kernel), (by decide +kernel), (by decide +kernel), (by decide +kernel), (by decide +kernel), (by decide +kernel), (by decide +kernel), (by decide +kernel), (by decide +kernel), (by decide +kernel), (by decide +kernel), (by decide +kernel), (by decide +kernel), (by decide +kernel), trivial⟩),
   dst_ok (by decide +kernel),
   lst_all (⟨⟨by decide, (hw _ (List.mem_of_getElem? (i := 13) rfl))⟩, ⟨by decide, (hw _ (List.mem_of_getElem? (i := 13) rfl))⟩, ⟨by decide, (hw _ (List.mem_of_getElem? (i := 13) rfl))⟩, ⟨by decide, (hw _ (List.mem_of_getElem? (i := 13) rfl))⟩, ⟨by decide, (hw _ (List.mem_of_getElem? (i := 13) rfl))⟩, ⟨by decide, (hw _ (List.mem_of_getElem? (i := 13) rfl))⟩, ⟨by decide, (hw _ (List.mem_of_getElem? (i := 13) rfl))⟩, ⟨by decide, (hw _ (List.mem_of_getElem? (i := 13) rfl))⟩, ⟨by decide, (hw _ (List.mem_of_getElem? (i := 13) rfl))⟩, ⟨by decide, (hw _ (List.mem_of_getElem? (i := 13) rfl))⟩, ⟨by decide, (hw _ (List.mem_of_getElem? (i := 13) rfl))⟩, ⟨by decide, (hw _ (List.mem_of_getElem? (i := 36) rfl))⟩, ⟨by decide, (hw _ (List.mem_of_getElem? (i := 36) rfl))⟩, ⟨by decide, (hw _ (List.mem_of_getElem? (i := 36) rfl))⟩, ⟨by decide, (hw _ (List.mem_of_getElem? (i := 13) rfl))⟩, ⟨by decide, (hw _ (List.mem_of_getElem? (i := 13) rfl))⟩, trivial⟩),
   asc_all (trivial),
   ⟨(hw _ (List.mem_of_getElem? (i := 6) rfl)), (hw _ (List.mem_of_getElem? (i := 7) rfl)), (hw _ (List.mem_of_getElem? (i := 8) rfl))⟩,
   asc_all (⟨⟨prog_1_method_1_code, [.int, .int, .int], (hw _ (List.mem_of_getElem? (i := 5) rfl)), chk_ok dk_c0, pk_c0, rfl⟩, ⟨prog_1_method_4_code, [.int, .int, .int, .int], (hw _ (List.mem_of_getElem? (i := 73) rfl)), chk_ok dk_c4, pk_c4, rfl⟩, ⟨prog_1_method_8_code, [.int, .int], (hw _ (List.mem_of_getElem? (i := 138) rfl)), chk_ok dk_c8, pk_c8, rfl⟩, ⟨prog_1_method_9_code, [.int, .int], (hw _ (List.mem_of_getElem? (i := 143) rfl)), chk_ok dk_c9, pk_c9, rfl⟩, ⟨prog_1_method_20_code, [.int, .int, .int, .int], (hw _ (List.mem_of_getElem? (i := 77) rfl)), chk_ok dk_c20, pk_c20, rfl⟩, ⟨prog_1_method_21_code, [], (hw _ (List.mem_of_getElem? (i := 85) rfl)), chk_ok dk_c21, pk_c21, rfl⟩, ⟨prog_1_method_22_code, [.int], (hw _ (List.mem_of_getElem? (i := 81) rfl)), chk_ok dk_c22, pk_c22, rfl⟩, ⟨prog_1_method_23_code, [.int], (hw _ (List.mem_of_getElem? (i := 147) rfl)), chk_ok dk_c23, pk_c23, rfl⟩, ⟨prog_1_method_24_code, [.int], (hw _ (List.mem_of_getElem? (i := 113) rfl)), chk_ok dk_c24, pk_c24, rfl⟩, ⟨prog_1_method_26_code, [.int, .int, .int], (hw _ (List.mem_of_getElem? (i := 97) rfl)), chk_ok dk_c26, pk_c26, rfl⟩, ⟨prog_1_method_27_code, [.int, .int, .int, .int], (hw _ (List.mem_of_getElem? (i := 101) rfl)), chk_ok dk_c27, pk_c27, rfl⟩, ⟨prog_1_method_28_code, [.int, .int], (hw _ (List.mem_of_getElem? (i := 105) rfl)), chk_ok dk_c28, pk_c28, rfl⟩, ⟨prog_1_method_31_code, [.int, .int], (hw _ (List.mem_of_getElem? (i := 159) rfl)), chk_ok dk_c31, pk_c31, rfl⟩, ⟨prog_1_method_32_code, [.int], (hw _ (List.mem_of_getElem? (i := 133) rfl)), chk_ok dk_c32, pk_c32, rfl⟩, ⟨prog_1_method_34_code, [.int, .int], (hw _ (List.mem_of_getElem? (i := 109) rfl)), chk_ok dk_c34, pk_c34, rfl⟩, ⟨prog_1_method_36_code, [.int, .int], (hw _ (List.mem_of_getElem? (i := 121) rfl)), chk_ok dk_c36, pk_c36, rfl⟩, ⟨prog_1_method_37_code, [.int, .int, .int], (hw _ (List.mem_of_getElem? (i := 125) rfl)), chk_ok dk_c37, pk_c37, rfl⟩, ⟨prog_1_method_39_code, [.int], (hw _ (List.mem_of_getElem? (i := 64) rfl)), chk_ok dk_c39, pk_c39, rfl⟩, ⟨prog_1_method_40_code, [.int, .int], (hw _ (List.mem_of_getElem? (i := 89) rfl)), chk_ok dk_c40, pk_c40, rfl⟩, ⟨prog_1_method_44_code, [.int, .int, .int], (hw _ (List.mem_of_getElem? (i := 93) rfl)), chk_ok dk_c44, pk_c44, rfl⟩, ⟨prog_1_method_45_code, [.int, .int, .int], (hw _ (List.mem_of_getElem? (i := 151) rfl)), chk_ok dk_c45, pk_c45, rfl⟩, ⟨prog_1_method_46_code, [.int], (hw _ (List.mem_of_getElem? (i := 155) rfl)), chk_ok dk_c46, pk_c46, rfl⟩, ⟨prog_1_method_47_code, [.int, .int], (hw _ (List.mem_of_getElem? (i := 117) rfl)), chk_ok dk_c47, pk_c47, rfl⟩, ⟨prog_1_method_49_code, [.int, .int], (hw _ (List.mem_of_getElem? (i := 68) rfl)), chk_ok dk_c49, pk_c49, rfl⟩, ⟨prog_1_method_50_code, [.int, .int, .int], (hw _ (List.mem_of_getElem? (i := 129) rfl)), chk_ok dk_c50, pk_c50, rfl⟩, ⟨prog_1_method_51_code, [.int, .int, .int], (hw _ (List.mem_of_getElem? (i := 50) rfl)), chk_ok dk_c51, pk_c51, rfl⟩, trivial⟩),
   asc_all (⟨by intro z h; obtain rfl : cm51 = z := Option.some.inj h; exact ⟨(hw _ (List.mem_of_getElem? (i := 47) rfl)), (hw _ (List.mem_of_getElem? (i := 48) rfl)), Or.inl (hw _ (List.mem_of_getElem? (i := 49) rfl))⟩, by intro z h; obtain rfl : cm39 = z := Option.some.inj h; exact ⟨(hw _ (List.mem_of_getElem? (i := 61) rfl)), (hw _ (List.mem_of_getElem? (i := 62) rfl)), Or.inl (hw _ (List.mem_of_getElem? (i := 63) rfl))⟩, by intro z h; obtain rfl : cm26 = z := Option.some.inj h; exact ⟨(hw _ (List.mem_of_getElem? (i := 94) rfl)), (hw _ (List.mem_of_getElem? (i := 95) rfl)), Or.inl (hw _ (List.mem_of_getElem? (i := 96) rfl))⟩, by intro z h; obtain rfl : cm28 = z := Option.some.inj h; exact ⟨(hw _ (List.mem_of_getElem? (i := 102) rfl)), (hw _ (List.mem_of_getElem? (i := 103) rfl)), Or.inl (hw _ (List.mem_of_getElem? (i := 104) rfl))⟩, by intro z h; obtain rfl : cm40 = z := Option.some.inj h; exact ⟨(hw _ (List.mem_of_getElem? (i := 86) rfl)), (hw _ (List.mem_of_getElem? (i := 87) rfl)), Or.inl (hw _ (List.mem_of_getElem? (i := 88) rfl))⟩, by intro z h; obtain rfl : cm20 = z := Option.some.inj h; exact ⟨(hw _ (List.mem_of_getElem? (i := 74) rfl)), (hw _ (List.mem_of_getElem? (i := 75) rfl)), Or.inl (hw _ (List.mem_of_getElem? (i := 76) rfl))⟩, by intro z h; obtain rfl : cm44 = z := Option.some.inj h; exact ⟨(hw _ (List.mem_of_getElem? (i := 90) rfl)), (hw _ (List.mem_of_getElem? (i := 91) rfl)), Or.inl (hw _ (List.mem_of_getElem? (i := 92) rfl))⟩, by intro z h; obtain rfl : cm27 = z := Option.some.inj h; exact ⟨(hw _ (List.mem_of_getElem? (i := 98) rfl)), (hw _ (List.mem_of_getElem? (i := 99) rfl)), Or.inl (hw _ (List.mem_of_getElem? (i := 100) rfl))⟩, by intro z h; obtain rfl : cm22 = z := Option.some.inj h; exact ⟨(hw _ (List.mem_of_getElem? (i := 78) rfl)), (hw _ (List.mem_of_getElem? (i := 79) rfl)), Or.inl (hw _ (List.mem_of_getElem? (i := 80) rfl))⟩, by intro z h; obtain rfl : cm34 = z := Option.some.inj h; exact ⟨(hw _ (List.mem_of_getElem? (i := 106) rfl)), (hw _ (List.mem_of_getElem? (i := 107) rfl)), Or.inl (hw _ (List.mem_of_getElem? (i := 108) rfl))⟩, by intro z h; obtain rfl : cm32 = z := Option.some.inj h; exact ⟨(hw _ (List.mem_of_getElem? (i := 130) rfl)), (hw _ (List.mem_of_getElem? (i := 131) rfl)), Or.inl (hw _ (List.mem_of_getElem? (i := 132) rfl))⟩, by intro z h; obtain rfl : cm47 = z := Option.some.inj h; exact ⟨(hw _ (List.mem_of_getElem? (i := 114) rfl)), (hw _ (List.mem_of_getElem? (i := 115) rfl)), Or.inl (hw _ (List.mem_of_getElem? (i := 116) rfl))⟩, by intro z h; obtain rfl : cm23 = z := Option.some.inj h; exact ⟨(hw _ (List.mem_of_getElem? (i := 144) rfl)), (hw _ (List.mem_of_getElem? (i := 145) rfl)), Or.inl (hw _ (List.mem_of_getElem? (i := 146) rfl))⟩, by intro z h; obtain rfl : cm45 = z := Option.some.inj h; exact ⟨(hw _ (List.mem_of_getElem? (i := 148) rfl)), (hw _ (List.mem_of_getElem? (i := 149) rfl)), Or.inl (hw _ (List.mem_of_getElem? (i := 150) rfl))⟩, by intro z h; obtain rfl : cm24 = z := Option.some.inj h; exact ⟨(hw _ (List.mem_of_getElem? (i := 110) rfl)), (hw _ (List.mem_of_getElem? (i := 111) rfl)), Or.inl (hw _ (List.mem_of_getElem? (i := 112) rfl))⟩, by intro z h; obtain rfl : cm21 = z := Option.some.inj h; exact ⟨(hw _ (List.mem_of_getElem? (i := 82) rfl)), (hw _ (List.mem_of_getElem? (i := 83) rfl)), Or.inl (hw _ (List.mem_of_getElem? (i := 84) rfl))⟩, by intro z h; obtain rfl : cm36 = z := Option.some.inj h; exact ⟨(hw _ (List.mem_of_getElem? (i := 118) rfl)), (hw _ (List.mem_of_getElem? (i := 119) rfl)), Or.inl (hw _ (List.mem_of_getElem? (i := 120) rfl))⟩, by intro z h; obtain rfl : cm37 = z := Option.some.inj h; exact ⟨(hw _ (List.mem_of_getElem? (i := 122) rfl)), (hw _ (List.mem_of_getElem? (i := 123) rfl)), Or.inl (hw _ (List.mem_of_getElem? (i := 124) rfl))⟩, by intro z h; obtain rfl : cm50 = z := Option.some.inj h; exact ⟨(hw _ (List.mem_of_getElem? (i := 126) rfl)), (hw _ (List.mem_of_getElem? (i := 127) rfl)), Or.inl (hw _ (List.mem_of_getElem? (i := 128) rfl))⟩, by intro z h; obtain rfl : cm31 = z := Option.some.inj h; exact ⟨(hw _ (List.mem_of_getElem? (i := 156) rfl)), (hw _ (List.mem_of_getElem? (i := 157) rfl)), Or.inl (hw _ (List.mem_of_getElem? (i := 158) rfl))⟩, by intro z h; obtain rfl : cm49 = z := Option.some.inj h; exact ⟨(hw _ (List.mem_of_getElem? (i := 65) rfl)), (hw _ (List.mem_of_getElem? (i := 66) rfl)), Or.inl (hw _ (List.mem_of_getElem? (i := 67) rfl))⟩, by intro z h; obtain rfl : cm46 = z := Option.some.inj h; exact ⟨(hw _ (List.mem_of_getElem? (i := 152) rfl)), (hw _ (List.mem_of_getElem? (i := 153) rfl)), Or.inl (hw _ (List.mem_of_getElem? (i := 154) rfl))⟩, trivial⟩),
   (by first | (simp [plainName, overriddenIn]; done) | decide +kernel),
   (by decide),
   (by intro me h; obtain rfl : cm0 = me := Option.some.inj h; rfl)⟩
theorem lkL (Z : State) (a0 : Array Value) (hw : ∀ d ∈ tables_1, d.before a0 Z = true) : LinkL PP QQ Z a0 :=
  ⟨⟨(hw _ (List.mem_of_getElem? (i := 0) rfl)), (hw _ (List.mem_of_getElem? (i := 1) rfl))⟩,
   (by intro me h; obtain rfl : cm0 = me := Option.some.inj h; exact ⟨(hw _ (List.mem_of_getElem? (i := 3) rfl)), (hw _ (List.mem_of_getElem? (i := 4) rfl)), rfl⟩),
   asc_all (⟨by intro z h; obtain rfl : cm4 = z := Option.some.inj h; exact ⟨(hw _ (List.mem_of_getElem? (i := 69) rfl)), (hw _ (List.mem_of_getElem? (i := 70) rfl)), (hw _ (List.mem_of_getElem? (i := 71) rfl)), (hw _ (List.mem_of_getElem? (i := 72) rfl))⟩, by intro z h; obtain rfl : cm8 = z := Option.some.inj h; exact ⟨(hw _ (List.mem_of_getElem? (i := 134) rfl)), (hw _ (List.mem_of_getElem? (i := 135) rfl)), (hw _ (List.mem_of_getElem? (i := 136) rfl)), (hw _ (List.mem_of_getElem? (i := 137) rfl))⟩, by intro z h; obtain rfl : cm9 = z := Option.some.inj h; exact ⟨(hw _ (List.mem_of_getElem? (i := 139) rfl)), (hw _ (List.mem_of_getElem? (i := 140) rfl)), (hw _ (List.mem_of_getElem? (i := 141) rfl)), (hw _ (List.mem_of_getElem? (i := 142) rfl))⟩, trivial⟩),
   asc_all (trivial),
   asc_all (trivial),
   asc_all (⟨fun h => absurd rfl h, trivial⟩),
   (by first | (simp [plainName, overriddenIn]; done) | decide +kernel),
   (by decide)⟩
theorem c51_in (a1 : Int32) (a2 : Int32) (a3 : Int32) (s : St) (Q : Int32 → St → Prop) (h : ((a1 < a2) → Q a2 s) ∧ (¬ (a1 < a2) → ((a3 < a1) → Q a3 s) ∧ (¬ (a3 < a1) → Q a1 s))) : calI PP 51 16 [.ref 0, .int a1, .int a2, .int a3] s Q := by
  refine cal_of (me := cm51) (ls := [some (.ref 0), some (.int a1), some (.int a2), some (.int a3)]) rfl (Nat.le_of_ble_eq_true rfl) rfl ?_
  refine wpc_sl (n := 2) (c' := 16) (pc' := 2) (ls' := [some (.ref 0), some (.int a1), some (.int a2), some (.int a3)]) (st' := [.int a2, .int a1]) (s' := s) rfl ?_
  refine wpc_icmp (a := 7) (b := 5) rfl (by decide) rfl rfl (wpc_br (p := a1 < a2) ⟨fun hc105 => ?_, fun hc105 => ?_⟩)
  · have h106 := h.1 hc105
    refine wpc_sl (n := 1) (c' := 16) (pc' := 6) (ls' := [some (.ref 0), some (.int a1), some (.int a2), some (.int a3)]) (st' := [.int a2]) (s' := s) rfl ?_
    exact wpc_ret rfl rfl (fun q => absurd q (by decide)) rfl ⟨a2, rfl, h106⟩
  · have h107 := h.2 hc105
    refine wpc_sl (n := 2) (c' := 16) (pc' := 9) (ls' := [some (.ref 0), some (.int a1), some (.int a2), some (.int a3)]) (st' := [.int a3, .int a1]) (s' := s) rfl ?_
    refine wpc_icmp (a := 14) (b := 12) rfl (by decide) rfl rfl (wpc_br (p := a3 < a1) ⟨fun hc108 => ?_, fun hc108 => ?_⟩)
    · have h109 := h107.1 hc108
      refine wpc_sl (n := 1) (c' := 16) (pc' := 13) (ls' := [some (.ref 0), some (.int a1), some (.int a2), some (.int a3)]) (st' := [.int a3]) (s' := s) rfl ?_
      exact wpc_ret rfl rfl (fun q => absurd q (by decide)) rfl ⟨a3, rfl, h109⟩
    · have h110 := h107.2 hc108
      refine wpc_sl (n := 1) (c' := 16) (pc' := 15) (ls' := [some (.ref 0), some (.int a1), some (.int a2), some (.int a3)]) (st' := [.int a1]) (s' := s) rfl ?_
      exact wpc_ret rfl rfl (fun q => absurd q (by decide)) rfl ⟨a1, rfl, h110⟩
theorem c49_in (a1 : Int32) (a2 : Int32) (s : St) (Q : Int32 → St → Prop) (h : Q ((a1 * (64 : Int32)) + a2) s) : calI PP 49 16 [.ref 0, .int a1, .int a2] s Q := by
  refine cal_of (me := cm49) (ls := [some (.ref 0), some (.int a1), some (.int a2)]) rfl (Nat.le_of_ble_eq_true rfl) rfl ?_
  refine wpc_sl (n := 5) (c' := 16) (pc' := 6) (ls' := [some (.ref 0), some (.int a1), some (.int a2)]) (st' := [.int ((a1 * (64 : Int32)) + a2)]) (s' := s) rfl ?_
  exact wpc_ret rfl rfl (fun q => absurd q (by decide)) rfl ⟨((a1 * (64 : Int32)) + a2), rfl, h⟩
theorem c39_in (a1 : Int32) (s : St) (Q : St → Prop) (h : inb 4 a1 ∧ wpcV PP 39 cm39 16 11 [some (.ref 0), some (.int a1), some (.int (0 : Int32)), some (.int (0 : Int32))] [] (sI s 10 (ix a1) (0 : Int32)) Q) : calV PP 39 16 [.ref 0, .int a1] s Q := by
  refine cal_of (me := cm39) (ls := [some (.ref 0), some (.int a1), none, none]) rfl (Nat.le_of_ble_eq_true rfl) rfl ?_
  refine wpc_sl (n := 4) (c' := 16) (pc' := 6) (ls' := [some (.ref 0), some (.int a1), none, none]) (st' := [.int (0 : Int32), .int a1, .ref 10]) (s' := s) rfl ?_
  refine wpc_staI (a := 9) (N := 4) (s' := (sI s 10 (ix a1) (0 : Int32))) rfl rfl (by decide) h.1 rfl ?_
  have h111 := h.2
  refine wpc_sl (n := 4) (c' := 16) (pc' := 11) (ls' := [some (.ref 0), some (.int a1), some (.int (0 : Int32)), some (.int (0 : Int32))]) (st' := []) (s' := (sI s 10 (ix a1) (0 : Int32))) rfl ?_
  exact h111
theorem c39_11 (x1 : Int32) (x2 : Int32) (x3 : Int32) (s : St) (Q : St → Prop) (h : ((x3 < (gI s 0 28)) → calI PP 49 16 [.ref 0, .int x1, .int x2] s (fun v116 s115 => inb 256 v116 ∧ wpcV PP 39 cm39 16 11 [some (.ref 0), some (.int x1), some (.int (x2 + (1 : Int32))), some (.int (x3 + (2 : Int32)))] [] (sI s115 15 (ix v116) x3) Q)) ∧ (¬ (x3 < (gI s 0 28)) → inb 4 x1 ∧ Q (sI s 11 (ix x1) x2))) : wpcV PP 39 cm39 16 11 [some (.ref 0), some (.int x1), some (.int x2), some (.int x3)] [] s Q := by
  refine wpc_sl (n := 3) (c' := 16) (pc' := 16) (ls' := [some (.ref 0), some (.int x1), some (.int x2), some (.int x3)]) (st' := [.int (gI s 0 28), .int x3]) (s' := s) rfl ?_
  refine wpc_icmp (a := 40) (b := 19) rfl (by decide) rfl rfl (wpc_br (p := x3 < (gI s 0 28)) ⟨fun hc112 => ?_, fun hc112 => ?_⟩)
  · have h113 := h.1 hc112
    refine wpc_sl (n := 5) (c' := 16) (pc' := 26) (ls' := [some (.ref 0), some (.int x1), some (.int x2), some (.int x3)]) (st' := [.int x2, .int x1, .ref 0, .ref 15]) (s' := s) rfl ?_
    refine wpc_callI (m' := 49) (me' := cm49) (as := [.int x1, .int x2]) (r := [.ref 15]) rfl rfl rfl rfl rfl ⟨by decide, (by first | decide | exact Nat.le_of_ble_eq_true rfl), (by first | decide | exact Nat.le_of_ble_eq_true rfl), rfl⟩ (calI.mono h113 fun v116 s115 h117 => ?_)
    refine wpc_sl (n := 1) (c' := 16) (pc' := 30) (ls' := [some (.ref 0), some (.int x1), some (.int x2), some (.int x3)]) (st' := [.int x3, .int v116, .ref 15]) (s' := s115) rfl ?_
    refine wpc_staI (a := 14) (N := 256) (s' := (sI s115 15 (ix v116) x3)) rfl rfl (by decide) h117.1 rfl ?_
    have h118 := h117.2
    refine wpc_sl (n := 3) (c' := 16) (pc' := 11) (ls' := [some (.ref 0), some (.int x1), some (.int (x2 + (1 : Int32))), some (.int (x3 + (2 : Int32)))]) (st' := []) (s' := (sI s115 15 (ix v116) x3)) rfl ?_
    exact h118
  · have h114 := h.2 hc112
    refine wpc_sl (n := 4) (c' := 16) (pc' := 46) (ls' := [some (.ref 0), some (.int x1), some (.int x2), some (.int x3)]) (st' := [.int x2, .int x1, .ref 11]) (s' := s) rfl ?_
    refine wpc_staI (a := 10) (N := 4) (s' := (sI s 11 (ix x1) x2)) rfl rfl (by decide) h114.1 rfl ?_
    have h119 := h114.2
    exact wpc_ret rfl rfl (fun q => absurd q (by decide)) rfl ⟨rfl, h119⟩
theorem c0_in (a1 : Int32) (a2 : Int32) (a3 : Int32) (s : St) (Q : St → Prop) (h : calI PP 51 16 [.ref 0, .int a1, .int (8 : Int32), .int (64 : Int32)] (sI (sI s 0 26 (64 : Int32)) 0 27 (4 : Int32)) (fun v91 s90 => calI PP 51 16 [.ref 0, .int a2, .int (8 : Int32), .int (64 : Int32)] (sI s90 0 28 v91) (fun v94 s93 => calI PP 51 16 [.ref 0, .int a3, .int (8 : Int32), .int (32 : Int32)] (sI s93 0 29 v94) (fun v97 s96 => wpcV PP 0 cm0 16 198 [some (.ref 0), none, none, none, some (.int (0 : Int32))] [] (sI (sI (sI s96 0 30 v97) 0 31 (0 : Int32)) 0 40 (0 : Int32)) Q)))) : calV PP 0 0 [.ref 0, .int a1, .int a2, .int a3] s Q := by
  refine cal_of (me := cm0) (ls := [some (.ref 0), some (.int a1), some (.int a2), some (.int a3), none]) rfl (Nat.le_of_ble_eq_true rfl) rfl ?_
  refine wpc_sl (n := 61) (c' := 16) (pc' := 153) (ls' := [some (.ref 0), some (.int a1), some (.int a2), some (.int a3), none]) (st' := [.int (64 : Int32), .int (8 : Int32), .int a1, .ref 0, .ref 0]) (s' := (sI (sI s 0 26 (64 : Int32)) 0 27 (4 : Int32))) rfl ?_
  refine wpc_callI (m' := 51) (me' := cm51) (as := [.int a1, .int (8 : Int32), .int (64 : Int32)]) (r := [.ref 0]) rfl rfl rfl rfl rfl ⟨by decide, (by first | decide | exact Nat.le_of_ble_eq_true rfl), (by first | decide | exact Nat.le_of_ble_eq_true rfl), rfl⟩ (calI.mono h fun v91 s90 h92 => ?_)
  refine wpc_sl (n := 6) (c' := 16) (pc' := 166) (ls' := [some (.ref 0), some (.int a1), some (.int a2), some (.int a3), none]) (st' := [.int (64 : Int32), .int (8 : Int32), .int a2, .ref 0, .ref 0]) (s' := (sI s90 0 28 v91)) rfl ?_
  refine wpc_callI (m' := 51) (me' := cm51) (as := [.int a2, .int (8 : Int32), .int (64 : Int32)]) (r := [.ref 0]) rfl rfl rfl rfl rfl ⟨by decide, (by first | decide | exact Nat.le_of_ble_eq_true rfl), (by first | decide | exact Nat.le_of_ble_eq_true rfl), rfl⟩ (calI.mono h92 fun v94 s93 h95 => ?_)
  refine wpc_sl (n := 6) (c' := 16) (pc' := 179) (ls' := [some (.ref 0), some (.int a1), some (.int a2), some (.int a3), none]) (st' := [.int (32 : Int32), .int (8 : Int32), .int a3, .ref 0, .ref 0]) (s' := (sI s93 0 29 v94)) rfl ?_
  refine wpc_callI (m' := 51) (me' := cm51) (as := [.int a3, .int (8 : Int32), .int (32 : Int32)]) (r := [.ref 0]) rfl rfl rfl rfl rfl ⟨by decide, (by first | decide | exact Nat.le_of_ble_eq_true rfl), (by first | decide | exact Nat.le_of_ble_eq_true rfl), rfl⟩ (calI.mono h95 fun v97 s96 h98 => ?_)
  refine wpc_sl (n := 9) (c' := 16) (pc' := 198) (ls' := [some (.ref 0), some (.int a1), some (.int a2), some (.int a3), some (.int (0 : Int32))]) (st' := []) (s' := (sI (sI (sI s96 0 30 v97) 0 31 (0 : Int32)) 0 40 (0 : Int32))) rfl ?_
  exact wpc_lle (ls := [some (.ref 0), none, none, none, some (.int (0 : Int32))]) ⟨rfl, rfl, trivial⟩ h98
theorem c0_198 (x4 : Int32) (s : St) (Q : St → Prop) (h : ((x4 < (4 : Int32)) → calV PP 39 16 [.ref 0, .int x4] s (fun s102 => wpcV PP 0 cm0 16 198 [some (.ref 0), none, none, none, some (.int (x4 + (1 : Int32)))] [] s102 Q)) ∧ (¬ (x4 < (4 : Int32)) → Q s)) : wpcV PP 0 cm0 16 198 [some (.ref 0), none, none, none, some (.int x4)] [] s Q := by
  refine wpc_sl (n := 2) (c' := 16) (pc' := 201) (ls' := [some (.ref 0), none, none, none, some (.int x4)]) (st' := [.int (4 : Int32), .int x4]) (s' := s) rfl ?_
  refine wpc_icmp (a := 216) (b := 204) rfl (by decide) rfl rfl (wpc_br (p := x4 < (4 : Int32)) ⟨fun hc99 => ?_, fun hc99 => ?_⟩)
  · have h100 := h.1 hc99
    refine wpc_sl (n := 2) (c' := 16) (pc' := 207) (ls' := [some (.ref 0), none, none, none, some (.int x4)]) (st' := [.int x4, .ref 0]) (s' := s) rfl ?_
    refine wpc_callV (m' := 39) (me' := cm39) (as := [.int x4]) (r := []) rfl rfl rfl rfl rfl ⟨by decide, (by first | decide | exact Nat.le_of_ble_eq_true rfl), (by first | decide | exact Nat.le_of_ble_eq_true rfl), rfl⟩ (calV.mono h100 fun s102 h104 => ?_)
    refine wpc_sl (n := 2) (c' := 16) (pc' := 198) (ls' := [some (.ref 0), none, none, none, some (.int (x4 + (1 : Int32)))]) (st' := []) (s' := s102) rfl ?_
    exact h104
  · have h101 := h.2 hc99
    exact wpc_ret rfl rfl (fun _ => rfl) rfl ⟨rfl, h101⟩
theorem c22_in (a1 : Int32) (s : St) (Q : Int32 → St → Prop) (h : ((a1 < (0 : Int32)) → Q (0 : Int32) s) ∧ (¬ (a1 < (0 : Int32)) → ((a1 < (4 : Int32)) → Q (1 : Int32) s) ∧ (¬ (a1 < (4 : Int32)) → Q (0 : Int32) s))) : calI PP 22 16 [.ref 0, .int a1] s Q := by
  refine cal_of (me := cm22) (ls := [some (.ref 0), some (.int a1)]) rfl (Nat.le_of_ble_eq_true rfl) rfl ?_
  refine wpc_sl (n := 1) (c' := 16) (pc' := 1) (ls' := [some (.ref 0), some (.int a1)]) (st' := [.int a1]) (s' := s) rfl ?_
  refine wpc_if (a := 13) (b := 4) rfl (by decide) rfl rfl (wpc_br (p := a1 < (0 : Int32)) ⟨fun hc186 => ?_, fun hc186 => ?_⟩)
  · have h187 := h.1 hc186
    refine wpc_sl (n := 1) (c' := 16) (pc' := 14) (ls' := [some (.ref 0), some (.int a1)]) (st' := [.int (0 : Int32)]) (s' := s) rfl ?_
    exact wpc_ret rfl rfl (fun q => absurd q (by decide)) rfl ⟨(0 : Int32), rfl, h187⟩
  · have h188 := h.2 hc186
    refine wpc_sl (n := 2) (c' := 16) (pc' := 6) (ls' := [some (.ref 0), some (.int a1)]) (st' := [.int (4 : Int32), .int a1]) (s' := s) rfl ?_
    refine wpc_icmp (a := 13) (b := 9) rfl (by decide) rfl rfl (wpc_br (p := a1 < (4 : Int32)) ⟨fun hc189 => ?_, fun hc189 => ?_⟩)
    · have h190 := h188.1 hc189
      refine wpc_sl (n := 2) (c' := 16) (pc' := 14) (ls' := [some (.ref 0), some (.int a1)]) (st' := [.int (1 : Int32)]) (s' := s) rfl ?_
      exact wpc_ret rfl rfl (fun q => absurd q (by decide)) rfl ⟨(1 : Int32), rfl, h190⟩
    · have h191 := h188.2 hc189
      refine wpc_sl (n := 1) (c' := 16) (pc' := 14) (ls' := [some (.ref 0), some (.int a1)]) (st' := [.int (0 : Int32)]) (s' := s) rfl ?_
      exact wpc_ret rfl rfl (fun q => absurd q (by decide)) rfl ⟨(0 : Int32), rfl, h191⟩
theorem c21_in  (s : St) (Q : Int32 → St → Prop) (h : (((gI s 0 31) < (gI s 0 29)) → (((gI s 0 40) < (gI s 0 30)) → Q (1 : Int32) s) ∧ (¬ ((gI s 0 40) < (gI s 0 30)) → Q (0 : Int32) s)) ∧ (¬ ((gI s 0 31) < (gI s 0 29)) → Q (0 : Int32) s)) : calI PP 21 16 [.ref 0] s Q := by
  refine cal_of (me := cm21) (ls := [some (.ref 0)]) rfl (Nat.le_of_ble_eq_true rfl) rfl ?_
  refine wpc_sl (n := 4) (c' := 16) (pc' := 8) (ls' := [some (.ref 0)]) (st' := [.int (gI s 0 29), .int (gI s 0 31)]) (s' := s) rfl ?_
  refine wpc_icmp (a := 13) (b := 11) rfl (by decide) rfl rfl (wpc_br (p := (gI s 0 31) < (gI s 0 29)) ⟨fun hc192 => ?_, fun hc192 => ?_⟩)
  · have h193 := h.1 hc192
    refine wpc_sl (n := 4) (c' := 16) (pc' := 21) (ls' := [some (.ref 0)]) (st' := [.int (gI s 0 30), .int (gI s 0 40)]) (s' := s) rfl ?_
    refine wpc_icmp (a := 28) (b := 24) rfl (by decide) rfl rfl (wpc_br (p := (gI s 0 40) < (gI s 0 30)) ⟨fun hc195 => ?_, fun hc195 => ?_⟩)
    · have h196 := h193.1 hc195
      refine wpc_sl (n := 2) (c' := 16) (pc' := 29) (ls' := [some (.ref 0)]) (st' := [.int (1 : Int32)]) (s' := s) rfl ?_
      exact wpc_ret rfl rfl (fun q => absurd q (by decide)) rfl ⟨(1 : Int32), rfl, h196⟩
    · have h197 := h193.2 hc195
      refine wpc_sl (n := 1) (c' := 16) (pc' := 29) (ls' := [some (.ref 0)]) (st' := [.int (0 : Int32)]) (s' := s) rfl ?_
      exact wpc_ret rfl rfl (fun q => absurd q (by decide)) rfl ⟨(0 : Int32), rfl, h197⟩
  · have h194 := h.2 hc192
    refine wpc_sl (n := 1) (c' := 16) (pc' := 12) (ls' := [some (.ref 0)]) (st' := [.int (0 : Int32)]) (s' := s) rfl ?_
    exact wpc_ret rfl rfl (fun q => absurd q (by decide)) rfl ⟨(0 : Int32), rfl, h194⟩
theorem c20_in (a1 : Int32) (a2 : Int32) (a3 : Int32) (a4 : Int32) (s : St) (Q : Int32 → St → Prop) (h : calI PP 22 16 [.ref 0, .int a1] s (fun v156 s155 => ((v156 = (0 : Int32)) → Q (0 : Int32) s155) ∧ (¬ (v156 = (0 : Int32)) → ((a2 < (0 : Int32)) → Q (0 : Int32) s155) ∧ (¬ (a2 < (0 : Int32)) → (((1023 : Int32) < a2) → Q (0 : Int32) s155) ∧ (¬ ((1023 : Int32) < a2) → (((a2 % (4 : Int32)) = (2 : Int32)) → wpcI PP 20 cm20 16 39 [some (.ref 0), some (.int a1), none, some (.int a3), some (.int a4)] [] s155 Q) ∧ (¬ ((a2 % (4 : Int32)) = (2 : Int32)) → (((1 : Int32) < (a2 / (4 : Int32))) → Q (0 : Int32) s155) ∧ (¬ ((1 : Int32) < (a2 / (4 : Int32))) → wpcI PP 20 cm20 16 39 [some (.ref 0), some (.int a1), none, some (.int a3), some (.int a4)] [] s155 Q))))))) : calI PP 20 16 [.ref 0, .int a1, .int a2, .int a3, .int a4] s Q := by
  refine cal_of (me := cm20) (ls := [some (.ref 0), some (.int a1), some (.int a2), some (.int a3), some (.int a4)]) rfl (Nat.le_of_ble_eq_true rfl) rfl ?_
  refine wpc_sl (n := 2) (c' := 16) (pc' := 2) (ls' := [some (.ref 0), some (.int a1), some (.int a2), some (.int a3), some (.int a4)]) (st' := [.int a1, .ref 0]) (s' := s) rfl ?_
  refine wpc_callI (m' := 22) (me' := cm22) (as := [.int a1]) (r := []) rfl rfl rfl rfl rfl ⟨by decide, (by first | decide | exact Nat.le_of_ble_eq_true rfl), (by first | decide | exact Nat.le_of_ble_eq_true rfl), rfl⟩ (calI.mono h fun v156 s155 h157 => ?_)
  refine wpc_if (a := 10) (b := 8) rfl (by decide) rfl rfl (wpc_br (p := v156 = (0 : Int32)) ⟨fun hc158 => ?_, fun hc158 => ?_⟩)
  · have h159 := h157.1 hc158
    refine wpc_sl (n := 1) (c' := 16) (pc' := 9) (ls' := [some (.ref 0), some (.int a1), some (.int a2), some (.int a3), some (.int a4)]) (st' := [.int (0 : Int32)]) (s' := s155) rfl ?_
    exact wpc_ret rfl rfl (fun q => absurd q (by decide)) rfl ⟨(0 : Int32), rfl, h159⟩
  · have h160 := h157.2 hc158
    refine wpc_sl (n := 1) (c' := 16) (pc' := 11) (ls' := [some (.ref 0), some (.int a1), some (.int a2), some (.int a3), some (.int a4)]) (st' := [.int a2]) (s' := s155) rfl ?_
    refine wpc_if (a := 21) (b := 14) rfl (by decide) rfl rfl (wpc_br (p := a2 < (0 : Int32)) ⟨fun hc161 => ?_, fun hc161 => ?_⟩)
    · have h162 := h160.1 hc161
      refine wpc_sl (n := 1) (c' := 16) (pc' := 22) (ls' := [some (.ref 0), some (.int a1), some (.int a2), some (.int a3), some (.int a4)]) (st' := [.int (0 : Int32)]) (s' := s155) rfl ?_
      exact wpc_ret rfl rfl (fun q => absurd q (by decide)) rfl ⟨(0 : Int32), rfl, h162⟩
    · have h163 := h160.2 hc161
      refine wpc_sl (n := 2) (c' := 16) (pc' := 18) (ls' := [some (.ref 0), some (.int a1), some (.int a2), some (.int a3), some (.int a4)]) (st' := [.int (1023 : Int32), .int a2]) (s' := s155) rfl ?_
      refine wpc_icmp (a := 23) (b := 21) rfl (by decide) rfl rfl (wpc_br (p := (1023 : Int32) < a2) ⟨fun hc164 => ?_, fun hc164 => ?_⟩)
      · have h165 := h163.1 hc164
        refine wpc_sl (n := 1) (c' := 16) (pc' := 22) (ls' := [some (.ref 0), some (.int a1), some (.int a2), some (.int a3), some (.int a4)]) (st' := [.int (0 : Int32)]) (s' := s155) rfl ?_
        exact wpc_ret rfl rfl (fun q => absurd q (by decide)) rfl ⟨(0 : Int32), rfl, h165⟩
      · have h166 := h163.2 hc164
        refine wpc_sl (n := 4) (c' := 16) (pc' := 27) (ls' := [some (.ref 0), some (.int a1), some (.int a2), some (.int a3), some (.int a4)]) (st' := [.int (2 : Int32), .int (a2 % (4 : Int32))]) (s' := s155) rfl ?_
        refine wpc_icmp (a := 39) (b := 30) rfl (by decide) rfl rfl (wpc_br (p := (a2 % (4 : Int32)) = (2 : Int32)) ⟨fun hc167 => ?_, fun hc167 => ?_⟩)
        · have h168 := h166.1 hc167
          exact wpc_lle (ls := [some (.ref 0), some (.int a1), none, some (.int a3), some (.int a4)]) ⟨rfl, rfl, rfl, rfl, trivial⟩ h168
        · have h169 := h166.2 hc167
          refine wpc_sl (n := 4) (c' := 16) (pc' := 34) (ls' := [some (.ref 0), some (.int a1), some (.int a2), some (.int a3), some (.int a4)]) (st' := [.int (1 : Int32), .int (a2 / (4 : Int32))]) (s' := s155) rfl ?_
          refine wpc_icmp (a := 39) (b := 37) rfl (by decide) rfl rfl (wpc_br (p := (1 : Int32) < (a2 / (4 : Int32))) ⟨fun hc170 => ?_, fun hc170 => ?_⟩)
          · have h171 := h169.1 hc170
            refine wpc_sl (n := 1) (c' := 16) (pc' := 38) (ls' := [some (.ref 0), some (.int a1), some (.int a2), some (.int a3), some (.int a4)]) (st' := [.int (0 : Int32)]) (s' := s155) rfl ?_
            exact wpc_ret rfl rfl (fun q => absurd q (by decide)) rfl ⟨(0 : Int32), rfl, h171⟩
          · have h172 := h169.2 hc170
            exact wpc_lle (ls := [some (.ref 0), some (.int a1), none, some (.int a3), some (.int a4)]) ⟨rfl, rfl, rfl, rfl, trivial⟩ h172
theorem c20_39 (x1 : Int32) (x3 : Int32) (x4 : Int32) (s : St) (Q : Int32 → St → Prop) (h : ((x3 < (0 : Int32)) → Q (0 : Int32) s) ∧ (¬ (x3 < (0 : Int32)) → ((x4 < x3) → Q (0 : Int32) s) ∧ (¬ (x4 < x3) → inb 4 x1 ∧ ((x4 < (gI s 11 (ix x1))) → calI PP 21 16 [.ref 0] s (fun v184 s183 => Q (v184 &&& 1) s183)) ∧ (¬ (x4 < (gI s 11 (ix x1))) → Q (0 : Int32) s)))) : wpcI PP 20 cm20 16 39 [some (.ref 0), some (.int x1), none, some (.int x3), some (.int x4)] [] s Q := by
  refine wpc_sl (n := 1) (c' := 16) (pc' := 40) (ls' := [some (.ref 0), some (.int x1), none, some (.int x3), some (.int x4)]) (st' := [.int x3]) (s' := s) rfl ?_
  refine wpc_if (a := 49) (b := 43) rfl (by decide) rfl rfl (wpc_br (p := x3 < (0 : Int32)) ⟨fun hc173 => ?_, fun hc173 => ?_⟩)
  · have h174 := h.1 hc173
    refine wpc_sl (n := 1) (c' := 16) (pc' := 50) (ls' := [some (.ref 0), some (.int x1), none, some (.int x3), some (.int x4)]) (st' := [.int (0 : Int32)]) (s' := s) rfl ?_
    exact wpc_ret rfl rfl (fun q => absurd q (by decide)) rfl ⟨(0 : Int32), rfl, h174⟩
  · have h175 := h.2 hc173
    refine wpc_sl (n := 2) (c' := 16) (pc' := 46) (ls' := [some (.ref 0), some (.int x1), none, some (.int x3), some (.int x4)]) (st' := [.int x4, .int x3]) (s' := s) rfl ?_
    refine wpc_icmp (a := 51) (b := 49) rfl (by decide) rfl rfl (wpc_br (p := x4 < x3) ⟨fun hc176 => ?_, fun hc176 => ?_⟩)
    · have h177 := h175.1 hc176
      refine wpc_sl (n := 1) (c' := 16) (pc' := 50) (ls' := [some (.ref 0), some (.int x1), none, some (.int x3), some (.int x4)]) (st' := [.int (0 : Int32)]) (s' := s) rfl ?_
      exact wpc_ret rfl rfl (fun q => absurd q (by decide)) rfl ⟨(0 : Int32), rfl, h177⟩
    · have h178 := h175.2 hc176
      refine wpc_sl (n := 4) (c' := 16) (pc' := 58) (ls' := [some (.ref 0), some (.int x1), none, some (.int x3), some (.int x4)]) (st' := [.int x1, .ref 11, .int x4]) (s' := s) rfl ?_
      refine wpc_ldaI (a := 10) (N := 4) (v := (gI s 11 (ix x1))) rfl rfl (by decide) h178.1 rfl ?_
      have h179 := h178.2
      refine wpc_icmp (a := 64) (b := 62) rfl (by decide) rfl rfl (wpc_br (p := x4 < (gI s 11 (ix x1))) ⟨fun hc180 => ?_, fun hc180 => ?_⟩)
      · have h181 := h179.1 hc180
        refine wpc_sl (n := 1) (c' := 16) (pc' := 65) (ls' := [some (.ref 0), some (.int x1), none, some (.int x3), some (.int x4)]) (st' := [.ref 0]) (s' := s) rfl ?_
        refine wpc_callI (m' := 21) (me' := cm21) (as := []) (r := []) rfl rfl rfl rfl rfl ⟨by decide, (by first | decide | exact Nat.le_of_ble_eq_true rfl), (by first | decide | exact Nat.le_of_ble_eq_true rfl), rfl⟩ (calI.mono h181 fun v184 s183 h185 => ?_)
        exact wpc_ret rfl rfl (fun q => absurd q (by decide)) rfl ⟨(v184 &&& 1), rfl, h185⟩
      · have h182 := h179.2 hc180
        refine wpc_sl (n := 1) (c' := 16) (pc' := 63) (ls' := [some (.ref 0), some (.int x1), none, some (.int x3), some (.int x4)]) (st' := [.int (0 : Int32)]) (s' := s) rfl ?_
        exact wpc_ret rfl rfl (fun q => absurd q (by decide)) rfl ⟨(0 : Int32), rfl, h182⟩
theorem c40_in (a1 : Int32) (a2 : Int32) (s : St) (Q : Int32 → St → Prop) (h : ((a2 < (0 : Int32)) → Q (-1 : Int32) s) ∧ (¬ (a2 < (0 : Int32)) → inb 4 a1 ∧ ((a2 < (gI s 11 (ix a1))) → calI PP 49 16 [.ref 0, .int a1, .int a2] s (fun v206 s205 => inb 256 v206 ∧ Q (gI s205 15 (ix v206)) s205)) ∧ (¬ (a2 < (gI s 11 (ix a1))) → Q (-1 : Int32) s))) : calI PP 40 16 [.ref 0, .int a1, .int a2] s Q := by
  refine cal_of (me := cm40) (ls := [some (.ref 0), some (.int a1), some (.int a2)]) rfl (Nat.le_of_ble_eq_true rfl) rfl ?_
  refine wpc_sl (n := 1) (c' := 16) (pc' := 1) (ls' := [some (.ref 0), some (.int a1), some (.int a2)]) (st' := [.int a2]) (s' := s) rfl ?_
  refine wpc_if (a := 14) (b := 4) rfl (by decide) rfl rfl (wpc_br (p := a2 < (0 : Int32)) ⟨fun hc198 => ?_, fun hc198 => ?_⟩)
  · have h199 := h.1 hc198
    refine wpc_sl (n := 1) (c' := 16) (pc' := 15) (ls' := [some (.ref 0), some (.int a1), some (.int a2)]) (st' := [.int (-1 : Int32)]) (s' := s) rfl ?_
    exact wpc_ret rfl rfl (fun q => absurd q (by decide)) rfl ⟨(-1 : Int32), rfl, h199⟩
  · have h200 := h.2 hc198
    refine wpc_sl (n := 4) (c' := 16) (pc' := 10) (ls' := [some (.ref 0), some (.int a1), some (.int a2)]) (st' := [.int a1, .ref 11, .int a2]) (s' := s) rfl ?_
    refine wpc_ldaI (a := 10) (N := 4) (v := (gI s 11 (ix a1))) rfl rfl (by decide) h200.1 rfl ?_
    have h201 := h200.2
    refine wpc_icmp (a := 16) (b := 14) rfl (by decide) rfl rfl (wpc_br (p := a2 < (gI s 11 (ix a1))) ⟨fun hc202 => ?_, fun hc202 => ?_⟩)
    · have h203 := h201.1 hc202
      refine wpc_sl (n := 5) (c' := 16) (pc' := 23) (ls' := [some (.ref 0), some (.int a1), some (.int a2)]) (st' := [.int a2, .int a1, .ref 0, .ref 15]) (s' := s) rfl ?_
      refine wpc_callI (m' := 49) (me' := cm49) (as := [.int a1, .int a2]) (r := [.ref 15]) rfl rfl rfl rfl rfl ⟨by decide, (by first | decide | exact Nat.le_of_ble_eq_true rfl), (by first | decide | exact Nat.le_of_ble_eq_true rfl), rfl⟩ (calI.mono h203 fun v206 s205 h207 => ?_)
      refine wpc_ldaI (a := 14) (N := 256) (v := (gI s205 15 (ix v206))) rfl rfl (by decide) h207.1 rfl ?_
      have h208 := h207.2
      exact wpc_ret rfl rfl (fun q => absurd q (by decide)) rfl ⟨(gI s205 15 (ix v206)), rfl, h208⟩
    · have h204 := h201.2 hc202
      refine wpc_sl (n := 1) (c' := 16) (pc' := 15) (ls' := [some (.ref 0), some (.int a1), some (.int a2)]) (st' := [.int (-1 : Int32)]) (s' := s) rfl ?_
      exact wpc_ret rfl rfl (fun q => absurd q (by decide)) rfl ⟨(-1 : Int32), rfl, h204⟩
theorem c44_in (a1 : Int32) (a2 : Int32) (a3 : Int32) (s : St) (Q : Int32 → St → Prop) (h : ((a2 = (0 : Int32)) → wpcI PP 44 cm44 16 9 [some (.ref 0), some (.int a1), none, some (.int a3), none] [] s Q) ∧ (¬ (a2 = (0 : Int32)) → ((a2 = (1 : Int32)) → wpcI PP 44 cm44 16 9 [some (.ref 0), some (.int a1), none, some (.int a3), none] [] s Q) ∧ (¬ (a2 = (1 : Int32)) → Q (((3 : Int32) * a3) + (2 : Int32)) s))) : calI PP 44 16 [.ref 0, .int a1, .int a2, .int a3] s Q := by
  refine cal_of (me := cm44) (ls := [some (.ref 0), some (.int a1), some (.int a2), some (.int a3), none]) rfl (Nat.le_of_ble_eq_true rfl) rfl ?_
  refine wpc_sl (n := 1) (c' := 16) (pc' := 1) (ls' := [some (.ref 0), some (.int a1), some (.int a2), some (.int a3), none]) (st' := [.int a2]) (s' := s) rfl ?_
  refine wpc_if (a := 9) (b := 4) rfl (by decide) rfl rfl (wpc_br (p := a2 = (0 : Int32)) ⟨fun hc209 => ?_, fun hc209 => ?_⟩)
  · have h210 := h.1 hc209
    exact wpc_lle (ls := [some (.ref 0), some (.int a1), none, some (.int a3), none]) ⟨rfl, rfl, rfl, trivial⟩ h210
  · have h211 := h.2 hc209
    refine wpc_sl (n := 2) (c' := 16) (pc' := 6) (ls' := [some (.ref 0), some (.int a1), some (.int a2), some (.int a3), none]) (st' := [.int (1 : Int32), .int a2]) (s' := s) rfl ?_
    refine wpc_icmp (a := 34) (b := 9) rfl (by decide) rfl rfl (wpc_br (p := a2 = (1 : Int32)) ⟨fun hc212 => ?_, fun hc212 => ?_⟩)
    · have h213 := h211.1 hc212
      exact wpc_lle (ls := [some (.ref 0), some (.int a1), none, some (.int a3), none]) ⟨rfl, rfl, rfl, trivial⟩ h213
    · have h214 := h211.2 hc212
      refine wpc_sl (n := 5) (c' := 16) (pc' := 39) (ls' := [some (.ref 0), some (.int a1), some (.int a2), some (.int a3), none]) (st' := [.int (((3 : Int32) * a3) + (2 : Int32))]) (s' := s) rfl ?_
      exact wpc_ret rfl rfl (fun q => absurd q (by decide)) rfl ⟨(((3 : Int32) * a3) + (2 : Int32)), rfl, h214⟩
theorem c44_9 (x1 : Int32) (x3 : Int32) (s : St) (Q : Int32 → St → Prop) (h : False) : wpcI PP 44 cm44 16 9 [some (.ref 0), some (.int x1), none, some (.int x3), none] [] s Q := by
  refine wpc_sl (n := 3) (c' := 16) (pc' := 12) (ls' := [some (.ref 0), some (.int x1), none, some (.int x3), none]) (st' := [.int x3, .int x1, .ref 0]) (s' := s) rfl ?_
  exact h.elim
theorem c27_in (a1 : Int32) (a2 : Int32) (a3 : Int32) (a4 : Int32) (s : St) (Q : St → Prop) (h : inb 64 a1 ∧ inb 64 a1 ∧ inb 64 a1 ∧ Q (sI (sI (sI s 4 (ix a1) a2) 5 (ix a1) a3) 6 (ix a1) a4)) : calV PP 27 16 [.ref 0, .int a1, .int a2, .int a3, .int a4] s Q := by
  refine cal_of (me := cm27) (ls := [some (.ref 0), some (.int a1), some (.int a2), some (.int a3), some (.int a4)]) rfl (Nat.le_of_ble_eq_true rfl) rfl ?_
  refine wpc_sl (n := 4) (c' := 16) (pc' := 6) (ls' := [some (.ref 0), some (.int a1), some (.int a2), some (.int a3), some (.int a4)]) (st' := [.int a2, .int a1, .ref 4]) (s' := s) rfl ?_
  refine wpc_staI (a := 3) (N := 64) (s' := (sI s 4 (ix a1) a2)) rfl rfl (by decide) h.1 rfl ?_
  have h225 := h.2
  refine wpc_sl (n := 4) (c' := 16) (pc' := 13) (ls' := [some (.ref 0), some (.int a1), some (.int a2), some (.int a3), some (.int a4)]) (st' := [.int a3, .int a1, .ref 5]) (s' := (sI s 4 (ix a1) a2)) rfl ?_
  refine wpc_staI (a := 4) (N := 64) (s' := (sI (sI s 4 (ix a1) a2) 5 (ix a1) a3)) rfl rfl (by decide) h225.1 rfl ?_
  have h226 := h225.2
  refine wpc_sl (n := 4) (c' := 16) (pc' := 21) (ls' := [some (.ref 0), some (.int a1), some (.int a2), some (.int a3), some (.int a4)]) (st' := [.int a4, .int a1, .ref 6]) (s' := (sI (sI s 4 (ix a1) a2) 5 (ix a1) a3)) rfl ?_
  refine wpc_staI (a := 5) (N := 64) (s' := (sI (sI (sI s 4 (ix a1) a2) 5 (ix a1) a3) 6 (ix a1) a4)) rfl rfl (by decide) h226.1 rfl ?_
  have h227 := h226.2
  exact wpc_ret rfl rfl (fun q => absurd q (by decide)) rfl ⟨rfl, h227⟩
theorem c26_in (a1 : Int32) (a2 : Int32) (a3 : Int32) (s : St) (Q : Int32 → St → Prop) (h : inb 4 a2 ∧ inb 4 a2 ∧ inb 64 (gI s 0 31) ∧ inb 64 (gI s 0 31) ∧ inb 64 (gI s 0 31) ∧ inb 64 (gI s 0 31) ∧ calV PP 27 16 [.ref 0, .int (gI s 0 31), .int (0 : Int32), .int (0 : Int32), .int (0 : Int32)] (sI (sI (sI (sI (sI s 10 (ix a2) ((gI s 10 (ix a2)) + (1 : Int32))) 1 (ix (gI s 0 31)) a1) 2 (ix (gI s 0 31)) a2) 3 (ix (gI s 0 31)) ((gI s 10 (ix a2)) + (1 : Int32))) 8 (ix (gI s 0 31)) a3) (fun s221 => inb 64 (gI s 0 31) ∧ Q (gI s 0 31) (sI (sI s221 7 (ix (gI s 0 31)) (0 : Int32)) 0 31 ((gI s 0 31) + (1 : Int32))))) : calI PP 26 16 [.ref 0, .int a1, .int a2, .int a3] s Q := by
  refine cal_of (me := cm26) (ls := [some (.ref 0), some (.int a1), some (.int a2), some (.int a3), none, none]) rfl (Nat.le_of_ble_eq_true rfl) rfl ?_
  refine wpc_sl (n := 6) (c' := 16) (pc' := 11) (ls' := [some (.ref 0), some (.int a1), some (.int a2), some (.int a3), some (.int (gI s 0 31)), none]) (st' := [.int a2, .ref 10]) (s' := s) rfl ?_
  refine wpc_ldaI (a := 9) (N := 4) (v := (gI s 10 (ix a2))) rfl rfl (by decide) h.1 rfl ?_
  have h215 := h.2
  refine wpc_sl (n := 7) (c' := 16) (pc' := 23) (ls' := [some (.ref 0), some (.int a1), some (.int a2), some (.int a3), some (.int (gI s 0 31)), some (.int ((gI s 10 (ix a2)) + (1 : Int32)))]) (st' := [.int ((gI s 10 (ix a2)) + (1 : Int32)), .int a2, .ref 10]) (s' := s) rfl ?_
  refine wpc_staI (a := 9) (N := 4) (s' := (sI s 10 (ix a2) ((gI s 10 (ix a2)) + (1 : Int32)))) rfl rfl (by decide) h215.1 rfl ?_
  have h216 := h215.2
  refine wpc_sl (n := 4) (c' := 16) (pc' := 31) (ls' := [some (.ref 0), some (.int a1), some (.int a2), some (.int a3), some (.int (gI s 0 31)), some (.int ((gI s 10 (ix a2)) + (1 : Int32)))]) (st' := [.int a1, .int (gI s 0 31), .ref 1]) (s' := (sI s 10 (ix a2) ((gI s 10 (ix a2)) + (1 : Int32)))) rfl ?_
  refine wpc_staI (a := 0) (N := 64) (s' := (sI (sI s 10 (ix a2) ((gI s 10 (ix a2)) + (1 : Int32))) 1 (ix (gI s 0 31)) a1)) rfl rfl (by decide) h216.1 rfl ?_
  have h217 := h216.2
  refine wpc_sl (n := 4) (c' := 16) (pc' := 39) (ls' := [some (.ref 0), some (.int a1), some (.int a2), some (.int a3), some (.int (gI s 0 31)), some (.int ((gI s 10 (ix a2)) + (1 : Int32)))]) (st' := [.int a2, .int (gI s 0 31), .ref 2]) (s' := (sI (sI s 10 (ix a2) ((gI s 10 (ix a2)) + (1 : Int32))) 1 (ix (gI s 0 31)) a1)) rfl ?_
  refine wpc_staI (a := 1) (N := 64) (s' := (sI (sI (sI s 10 (ix a2) ((gI s 10 (ix a2)) + (1 : Int32))) 1 (ix (gI s 0 31)) a1) 2 (ix (gI s 0 31)) a2)) rfl rfl (by decide) h217.1 rfl ?_
  have h218 := h217.2
  refine wpc_sl (n := 4) (c' := 16) (pc' := 48) (ls' := [some (.ref 0), some (.int a1), some (.int a2), some (.int a3), some (.int (gI s 0 31)), some (.int ((gI s 10 (ix a2)) + (1 : Int32)))]) (st' := [.int ((gI s 10 (ix a2)) + (1 : Int32)), .int (gI s 0 31), .ref 3]) (s' := (sI (sI (sI s 10 (ix a2) ((gI s 10 (ix a2)) + (1 : Int32))) 1 (ix (gI s 0 31)) a1) 2 (ix (gI s 0 31)) a2)) rfl ?_
  refine wpc_staI (a := 2) (N := 64) (s' := (sI (sI (sI (sI s 10 (ix a2) ((gI s 10 (ix a2)) + (1 : Int32))) 1 (ix (gI s 0 31)) a1) 2 (ix (gI s 0 31)) a2) 3 (ix (gI s 0 31)) ((gI s 10 (ix a2)) + (1 : Int32)))) rfl rfl (by decide) h218.1 rfl ?_
  have h219 := h218.2
  refine wpc_sl (n := 4) (c' := 16) (pc' := 56) (ls' := [some (.ref 0), some (.int a1), some (.int a2), some (.int a3), some (.int (gI s 0 31)), some (.int ((gI s 10 (ix a2)) + (1 : Int32)))]) (st' := [.int a3, .int (gI s 0 31), .ref 8]) (s' := (sI (sI (sI (sI s 10 (ix a2) ((gI s 10 (ix a2)) + (1 : Int32))) 1 (ix (gI s 0 31)) a1) 2 (ix (gI s 0 31)) a2) 3 (ix (gI s 0 31)) ((gI s 10 (ix a2)) + (1 : Int32)))) rfl ?_
  refine wpc_staI (a := 7) (N := 64) (s' := (sI (sI (sI (sI (sI s 10 (ix a2) ((gI s 10 (ix a2)) + (1 : Int32))) 1 (ix (gI s 0 31)) a1) 2 (ix (gI s 0 31)) a2) 3 (ix (gI s 0 31)) ((gI s 10 (ix a2)) + (1 : Int32))) 8 (ix (gI s 0 31)) a3)) rfl rfl (by decide) h219.1 rfl ?_
  have h220 := h219.2
  refine wpc_sl (n := 5) (c' := 16) (pc' := 63) (ls' := [some (.ref 0), some (.int a1), some (.int a2), some (.int a3), some (.int (gI s 0 31)), some (.int ((gI s 10 (ix a2)) + (1 : Int32)))]) (st' := [.int (0 : Int32), .int (0 : Int32), .int (0 : Int32), .int (gI s 0 31), .ref 0]) (s' := (sI (sI (sI (sI (sI s 10 (ix a2) ((gI s 10 (ix a2)) + (1 : Int32))) 1 (ix (gI s 0 31)) a1) 2 (ix (gI s 0 31)) a2) 3 (ix (gI s 0 31)) ((gI s 10 (ix a2)) + (1 : Int32))) 8 (ix (gI s 0 31)) a3)) rfl ?_
  refine wpc_callV (m' := 27) (me' := cm27) (as := [.int (gI s 0 31), .int (0 : Int32), .int (0 : Int32), .int (0 : Int32)]) (r := []) rfl rfl rfl rfl rfl ⟨by decide, (by first | decide | exact Nat.le_of_ble_eq_true rfl), (by first | decide | exact Nat.le_of_ble_eq_true rfl), rfl⟩ (calV.mono h220 fun s221 h223 => ?_)
  refine wpc_sl (n := 4) (c' := 16) (pc' := 73) (ls' := [some (.ref 0), some (.int a1), some (.int a2), some (.int a3), some (.int (gI s 0 31)), some (.int ((gI s 10 (ix a2)) + (1 : Int32)))]) (st' := [.int (0 : Int32), .int (gI s 0 31), .ref 7]) (s' := s221) rfl ?_
  refine wpc_staI (a := 6) (N := 64) (s' := (sI s221 7 (ix (gI s 0 31)) (0 : Int32))) rfl rfl (by decide) h223.1 rfl ?_
  have h224 := h223.2
  refine wpc_sl (n := 6) (c' := 16) (pc' := 84) (ls' := [some (.ref 0), some (.int a1), some (.int a2), some (.int a3), some (.int (gI s 0 31)), some (.int ((gI s 10 (ix a2)) + (1 : Int32)))]) (st' := [.int (gI s 0 31)]) (s' := (sI (sI s221 7 (ix (gI s 0 31)) (0 : Int32)) 0 31 ((gI s 0 31) + (1 : Int32)))) rfl ?_
  exact wpc_ret rfl rfl (fun q => absurd q (by decide)) rfl ⟨(gI s 0 31), rfl, h224⟩
theorem c24_in (a1 : Int32) (s : St) (Q : Int32 → St → Prop) (h : ((a1 < (0 : Int32)) → Q (0 : Int32) s) ∧ (¬ (a1 < (0 : Int32)) → ((a1 < (gI s 0 31)) → Q (1 : Int32) s) ∧ (¬ (a1 < (gI s 0 31)) → Q (0 : Int32) s))) : calI PP 24 16 [.ref 0, .int a1] s Q := by
  refine cal_of (me := cm24) (ls := [some (.ref 0), some (.int a1)]) rfl (Nat.le_of_ble_eq_true rfl) rfl ?_
  refine wpc_sl (n := 1) (c' := 16) (pc' := 1) (ls' := [some (.ref 0), some (.int a1)]) (st' := [.int a1]) (s' := s) rfl ?_
  refine wpc_if (a := 16) (b := 4) rfl (by decide) rfl rfl (wpc_br (p := a1 < (0 : Int32)) ⟨fun hc271 => ?_, fun hc271 => ?_⟩)
  · have h272 := h.1 hc271
    refine wpc_sl (n := 1) (c' := 16) (pc' := 17) (ls' := [some (.ref 0), some (.int a1)]) (st' := [.int (0 : Int32)]) (s' := s) rfl ?_
    exact wpc_ret rfl rfl (fun q => absurd q (by decide)) rfl ⟨(0 : Int32), rfl, h272⟩
  · have h273 := h.2 hc271
    refine wpc_sl (n := 3) (c' := 16) (pc' := 9) (ls' := [some (.ref 0), some (.int a1)]) (st' := [.int (gI s 0 31), .int a1]) (s' := s) rfl ?_
    refine wpc_icmp (a := 16) (b := 12) rfl (by decide) rfl rfl (wpc_br (p := a1 < (gI s 0 31)) ⟨fun hc274 => ?_, fun hc274 => ?_⟩)
    · have h275 := h273.1 hc274
      refine wpc_sl (n := 2) (c' := 16) (pc' := 17) (ls' := [some (.ref 0), some (.int a1)]) (st' := [.int (1 : Int32)]) (s' := s) rfl ?_
      exact wpc_ret rfl rfl (fun q => absurd q (by decide)) rfl ⟨(1 : Int32), rfl, h275⟩
    · have h276 := h273.2 hc274
      refine wpc_sl (n := 1) (c' := 16) (pc' := 17) (ls' := [some (.ref 0), some (.int a1)]) (st' := [.int (0 : Int32)]) (s' := s) rfl ?_
      exact wpc_ret rfl rfl (fun q => absurd q (by decide)) rfl ⟨(0 : Int32), rfl, h276⟩
theorem c47_in (a1 : Int32) (a2 : Int32) (s : St) (Q : Int32 → St → Prop) (h : Q ((a1 * (64 : Int32)) + a2) s) : calI PP 47 16 [.ref 0, .int a1, .int a2] s Q := by
  refine cal_of (me := cm47) (ls := [some (.ref 0), some (.int a1), some (.int a2)]) rfl (Nat.le_of_ble_eq_true rfl) rfl ?_
  refine wpc_sl (n := 5) (c' := 16) (pc' := 6) (ls' := [some (.ref 0), some (.int a1), some (.int a2)]) (st' := [.int ((a1 * (64 : Int32)) + a2)]) (s' := s) rfl ?_
  exact wpc_ret rfl rfl (fun q => absurd q (by decide)) rfl ⟨((a1 * (64 : Int32)) + a2), rfl, h⟩
theorem c50_in (a1 : Int32) (a2 : Int32) (a3 : Int32) (s : St) (Q : Int32 → St → Prop) (h : Q ((((a1 * (64 : Int32)) + a2) * (4 : Int32)) + a3) s) : calI PP 50 16 [.ref 0, .int a1, .int a2, .int a3] s Q := by
  refine cal_of (me := cm50) (ls := [some (.ref 0), some (.int a1), some (.int a2), some (.int a3)]) rfl (Nat.le_of_ble_eq_true rfl) rfl ?_
  refine wpc_sl (n := 9) (c' := 16) (pc' := 10) (ls' := [some (.ref 0), some (.int a1), some (.int a2), some (.int a3)]) (st' := [.int ((((a1 * (64 : Int32)) + a2) * (4 : Int32)) + a3)]) (s' := s) rfl ?_
  exact wpc_ret rfl rfl (fun q => absurd q (by decide)) rfl ⟨((((a1 * (64 : Int32)) + a2) * (4 : Int32)) + a3), rfl, h⟩
theorem c31_in (a1 : Int32) (a2 : Int32) (s : St) (Q : Int32 → St → Prop) (h : inb 64 a1 ∧ inb 64 a2 ∧ (((gI s 3 (ix a1)) = (gI s 3 (ix a2))) → inb 64 a1 ∧ inb 64 a2 ∧ (((gI s 2 (ix a2)) < (gI s 2 (ix a1))) → Q (1 : Int32) s) ∧ (¬ ((gI s 2 (ix a2)) < (gI s 2 (ix a1))) → Q (0 : Int32) s)) ∧ (¬ ((gI s 3 (ix a1)) = (gI s 3 (ix a2))) → inb 64 a1 ∧ inb 64 a2 ∧ (((gI s 3 (ix a2)) < (gI s 3 (ix a1))) → Q (1 : Int32) s) ∧ (¬ ((gI s 3 (ix a2)) < (gI s 3 (ix a1))) → Q (0 : Int32) s))) : calI PP 31 16 [.ref 0, .int a1, .int a2] s Q := by
  refine cal_of (me := cm31) (ls := [some (.ref 0), some (.int a1), some (.int a2)]) rfl (Nat.le_of_ble_eq_true rfl) rfl ?_
  refine wpc_sl (n := 3) (c' := 16) (pc' := 5) (ls' := [some (.ref 0), some (.int a1), some (.int a2)]) (st' := [.int a1, .ref 3]) (s' := s) rfl ?_
  refine wpc_ldaI (a := 2) (N := 64) (v := (gI s 3 (ix a1))) rfl rfl (by decide) h.1 rfl ?_
  have h317 := h.2
  refine wpc_sl (n := 3) (c' := 16) (pc' := 11) (ls' := [some (.ref 0), some (.int a1), some (.int a2)]) (st' := [.int a2, .ref 3, .int (gI s 3 (ix a1))]) (s' := s) rfl ?_
  refine wpc_ldaI (a := 2) (N := 64) (v := (gI s 3 (ix a2))) rfl rfl (by decide) h317.1 rfl ?_
  have h318 := h317.2
  refine wpc_icmp (a := 36) (b := 15) rfl (by decide) rfl rfl (wpc_br (p := (gI s 3 (ix a1)) = (gI s 3 (ix a2))) ⟨fun hc319 => ?_, fun hc319 => ?_⟩)
  · have h320 := h318.1 hc319
    refine wpc_sl (n := 3) (c' := 16) (pc' := 41) (ls' := [some (.ref 0), some (.int a1), some (.int a2)]) (st' := [.int a1, .ref 2]) (s' := s) rfl ?_
    refine wpc_ldaI (a := 1) (N := 64) (v := (gI s 2 (ix a1))) rfl rfl (by decide) h320.1 rfl ?_
    have h322 := h320.2
    refine wpc_sl (n := 3) (c' := 16) (pc' := 47) (ls' := [some (.ref 0), some (.int a1), some (.int a2)]) (st' := [.int a2, .ref 2, .int (gI s 2 (ix a1))]) (s' := s) rfl ?_
    refine wpc_ldaI (a := 1) (N := 64) (v := (gI s 2 (ix a2))) rfl rfl (by decide) h322.1 rfl ?_
    have h323 := h322.2
    refine wpc_icmp (a := 55) (b := 51) rfl (by decide) rfl rfl (wpc_br (p := (gI s 2 (ix a2)) < (gI s 2 (ix a1))) ⟨fun hc324 => ?_, fun hc324 => ?_⟩)
    · have h325 := h323.1 hc324
      refine wpc_sl (n := 2) (c' := 16) (pc' := 56) (ls' := [some (.ref 0), some (.int a1), some (.int a2)]) (st' := [.int (1 : Int32)]) (s' := s) rfl ?_
      exact wpc_ret rfl rfl (fun q => absurd q (by decide)) rfl ⟨(1 : Int32), rfl, h325⟩
    · have h326 := h323.2 hc324
      refine wpc_sl (n := 1) (c' := 16) (pc' := 56) (ls' := [some (.ref 0), some (.int a1), some (.int a2)]) (st' := [.int (0 : Int32)]) (s' := s) rfl ?_
      exact wpc_ret rfl rfl (fun q => absurd q (by decide)) rfl ⟨(0 : Int32), rfl, h326⟩
  · have h321 := h318.2 hc319
    refine wpc_sl (n := 3) (c' := 16) (pc' := 20) (ls' := [some (.ref 0), some (.int a1), some (.int a2)]) (st' := [.int a1, .ref 3]) (s' := s) rfl ?_
    refine wpc_ldaI (a := 2) (N := 64) (v := (gI s 3 (ix a1))) rfl rfl (by decide) h321.1 rfl ?_
    have h327 := h321.2
    refine wpc_sl (n := 3) (c' := 16) (pc' := 26) (ls' := [some (.ref 0), some (.int a1), some (.int a2)]) (st' := [.int a2, .ref 3, .int (gI s 3 (ix a1))]) (s' := s) rfl ?_
    refine wpc_ldaI (a := 2) (N := 64) (v := (gI s 3 (ix a2))) rfl rfl (by decide) h327.1 rfl ?_
    have h328 := h327.2
    refine wpc_icmp (a := 34) (b := 30) rfl (by decide) rfl rfl (wpc_br (p := (gI s 3 (ix a2)) < (gI s 3 (ix a1))) ⟨fun hc329 => ?_, fun hc329 => ?_⟩)
    · have h330 := h328.1 hc329
      refine wpc_sl (n := 2) (c' := 16) (pc' := 35) (ls' := [some (.ref 0), some (.int a1), some (.int a2)]) (st' := [.int (1 : Int32)]) (s' := s) rfl ?_
      exact wpc_ret rfl rfl (fun q => absurd q (by decide)) rfl ⟨(1 : Int32), rfl, h330⟩
    · have h331 := h328.2 hc329
      refine wpc_sl (n := 1) (c' := 16) (pc' := 35) (ls' := [some (.ref 0), some (.int a1), some (.int a2)]) (st' := [.int (0 : Int32)]) (s' := s) rfl ?_
      exact wpc_ret rfl rfl (fun q => absurd q (by decide)) rfl ⟨(0 : Int32), rfl, h331⟩
theorem c37_in (a1 : Int32) (a2 : Int32) (a3 : Int32) (s : St) (Q : St → Prop) (h : inb 64 a3 ∧ (((gI s 4 (ix a3)) < (0 : Int32)) → Q s) ∧ (¬ ((gI s 4 (ix a3)) < (0 : Int32)) → (((gI s 4 (ix a3)) < (4 : Int32)) → calI PP 50 16 [.ref 0, .int a1, .int a2, .int (gI s 4 (ix a3))] s (fun v304 s303 => inb 1024 v304 ∧ ((((gI s303 16 (ix v304)) - (1 : Int32)) < (0 : Int32)) → wpcV PP 37 cm37 16 56 [some (.ref 0), none, none, some (.int a3), none, some (.int v304), none] [] s303 Q) ∧ (¬ (((gI s303 16 (ix v304)) - (1 : Int32)) < (0 : Int32)) → calI PP 31 16 [.ref 0, .int a3, .int ((gI s303 16 (ix v304)) - (1 : Int32))] s303 (fun v311 s310 => ((v311 = (0 : Int32)) → Q s310) ∧ (¬ (v311 = (0 : Int32)) → wpcV PP 37 cm37 16 56 [some (.ref 0), none, none, some (.int a3), none, some (.int v304), none] [] s310 Q))))) ∧ (¬ ((gI s 4 (ix a3)) < (4 : Int32)) → Q s))) : calV PP 37 16 [.ref 0, .int a1, .int a2, .int a3] s Q := by
  refine cal_of (me := cm37) (ls := [some (.ref 0), some (.int a1), some (.int a2), some (.int a3), none, none, none]) rfl (Nat.le_of_ble_eq_true rfl) rfl ?_
  refine wpc_sl (n := 3) (c' := 16) (pc' := 5) (ls' := [some (.ref 0), some (.int a1), some (.int a2), some (.int a3), none, none, none]) (st' := [.int a3, .ref 4]) (s' := s) rfl ?_
  refine wpc_ldaI (a := 3) (N := 64) (v := (gI s 4 (ix a3))) rfl rfl (by decide) h.1 rfl ?_
  have h296 := h.2
  refine wpc_sl (n := 2) (c' := 16) (pc' := 10) (ls' := [some (.ref 0), some (.int a1), some (.int a2), some (.int a3), some (.int (gI s 4 (ix a3))), none, none]) (st' := [.int (gI s 4 (ix a3))]) (s' := s) rfl ?_
  refine wpc_if (a := 19) (b := 13) rfl (by decide) rfl rfl (wpc_br (p := (gI s 4 (ix a3)) < (0 : Int32)) ⟨fun hc297 => ?_, fun hc297 => ?_⟩)
  · have h298 := h296.1 hc297
    exact wpc_ret rfl rfl (fun q => absurd q (by decide)) rfl ⟨rfl, h298⟩
  · have h299 := h296.2 hc297
    refine wpc_sl (n := 2) (c' := 16) (pc' := 16) (ls' := [some (.ref 0), some (.int a1), some (.int a2), some (.int a3), some (.int (gI s 4 (ix a3))), none, none]) (st' := [.int (4 : Int32), .int (gI s 4 (ix a3))]) (s' := s) rfl ?_
    refine wpc_icmp (a := 20) (b := 19) rfl (by decide) rfl rfl (wpc_br (p := (gI s 4 (ix a3)) < (4 : Int32)) ⟨fun hc300 => ?_, fun hc300 => ?_⟩)
    · have h301 := h299.1 hc300
      refine wpc_sl (n := 4) (c' := 16) (pc' := 25) (ls' := [some (.ref 0), some (.int a1), some (.int a2), some (.int a3), some (.int (gI s 4 (ix a3))), none, none]) (st' := [.int (gI s 4 (ix a3)), .int a2, .int a1, .ref 0]) (s' := s) rfl ?_
      refine wpc_callI (m' := 50) (me' := cm50) (as := [.int a1, .int a2, .int (gI s 4 (ix a3))]) (r := []) rfl rfl rfl rfl rfl ⟨by decide, (by first | decide | exact Nat.le_of_ble_eq_true rfl), (by first | decide | exact Nat.le_of_ble_eq_true rfl), rfl⟩ (calI.mono h301 fun v304 s303 h305 => ?_)
      refine wpc_sl (n := 4) (c' := 16) (pc' := 36) (ls' := [some (.ref 0), some (.int a1), some (.int a2), some (.int a3), some (.int (gI s 4 (ix a3))), some (.int v304), none]) (st' := [.int v304, .ref 16]) (s' := s303) rfl ?_
      refine wpc_ldaI (a := 15) (N := 1024) (v := (gI s303 16 (ix v304))) rfl rfl (by decide) h305.1 rfl ?_
      have h306 := h305.2
      refine wpc_sl (n := 4) (c' := 16) (pc' := 43) (ls' := [some (.ref 0), some (.int a1), some (.int a2), some (.int a3), some (.int (gI s 4 (ix a3))), some (.int v304), some (.int ((gI s303 16 (ix v304)) - (1 : Int32)))]) (st' := [.int ((gI s303 16 (ix v304)) - (1 : Int32))]) (s' := s303) rfl ?_
      refine wpc_if (a := 56) (b := 46) rfl (by decide) rfl rfl (wpc_br (p := ((gI s303 16 (ix v304)) - (1 : Int32)) < (0 : Int32)) ⟨fun hc307 => ?_, fun hc307 => ?_⟩)
      · have h308 := h306.1 hc307
        exact wpc_lle (ls := [some (.ref 0), none, none, some (.int a3), none, some (.int v304), none]) ⟨rfl, rfl, rfl, trivial⟩ h308
      · have h309 := h306.2 hc307
        refine wpc_sl (n := 3) (c' := 16) (pc' := 50) (ls' := [some (.ref 0), some (.int a1), some (.int a2), some (.int a3), some (.int (gI s 4 (ix a3))), some (.int v304), some (.int ((gI s303 16 (ix v304)) - (1 : Int32)))]) (st' := [.int ((gI s303 16 (ix v304)) - (1 : Int32)), .int a3, .ref 0]) (s' := s303) rfl ?_
        refine wpc_callI (m' := 31) (me' := cm31) (as := [.int a3, .int ((gI s303 16 (ix v304)) - (1 : Int32))]) (r := []) rfl rfl rfl rfl rfl ⟨by decide, (by first | decide | exact Nat.le_of_ble_eq_true rfl), (by first | decide | exact Nat.le_of_ble_eq_true rfl), rfl⟩ (calI.mono h309 fun v311 s310 h312 => ?_)
        refine wpc_if (a := 66) (b := 56) rfl (by decide) rfl rfl (wpc_br (p := v311 = (0 : Int32)) ⟨fun hc313 => ?_, fun hc313 => ?_⟩)
        · have h314 := h312.1 hc313
          exact wpc_ret rfl rfl (fun q => absurd q (by decide)) rfl ⟨rfl, h314⟩
        · have h315 := h312.2 hc313
          exact wpc_lle (ls := [some (.ref 0), none, none, some (.int a3), none, some (.int v304), none]) ⟨rfl, rfl, rfl, trivial⟩ h315
    · have h302 := h299.2 hc300
      exact wpc_ret rfl rfl (fun q => absurd q (by decide)) rfl ⟨rfl, h302⟩
theorem c37_56 (x3 : Int32) (x5 : Int32) (s : St) (Q : St → Prop) (h : inb 1024 x5 ∧ Q (sI s 16 (ix x5) (x3 + (1 : Int32)))) : wpcV PP 37 cm37 16 56 [some (.ref 0), none, none, some (.int x3), none, some (.int x5), none] [] s Q := by
  refine wpc_sl (n := 6) (c' := 16) (pc' := 65) (ls' := [some (.ref 0), none, none, some (.int x3), none, some (.int x5), none]) (st' := [.int (x3 + (1 : Int32)), .int x5, .ref 16]) (s' := s) rfl ?_
  refine wpc_staI (a := 15) (N := 1024) (s' := (sI s 16 (ix x5) (x3 + (1 : Int32)))) rfl rfl (by decide) h.1 rfl ?_
  have h316 := h.2
  exact wpc_ret rfl rfl (fun q => absurd q (by decide)) rfl ⟨rfl, h316⟩
theorem c36_in (a1 : Int32) (a2 : Int32) (s : St) (Q : St → Prop) (h : inb 64 a2 ∧ ∀ m278, m278 = (if ((gI s 5 (ix a2)) / (3 : Int32)) < (0 : Int32) then (0 : Int32) else ((gI s 5 (ix a2)) / (3 : Int32))) → (wpcV PP 36 cm36 16 18 [some (.ref 0), some (.int a1), some (.int a2), none, some (.int m278), none] [] s Q)) : calV PP 36 16 [.ref 0, .int a1, .int a2] s Q := by
  refine cal_of (me := cm36) (ls := [some (.ref 0), some (.int a1), some (.int a2), none, none, none]) rfl (Nat.le_of_ble_eq_true rfl) rfl ?_
  refine wpc_sl (n := 3) (c' := 16) (pc' := 5) (ls' := [some (.ref 0), some (.int a1), some (.int a2), none, none, none]) (st' := [.int a2, .ref 5]) (s' := s) rfl ?_
  refine wpc_ldaI (a := 4) (N := 64) (v := (gI s 5 (ix a2))) rfl rfl (by decide) h.1 rfl ?_
  have h277 := h.2
  refine wpc_sl (n := 4) (c' := 16) (pc' := 10) (ls' := [some (.ref 0), some (.int a1), some (.int a2), some (.int ((gI s 5 (ix a2)) / (3 : Int32))), none, none]) (st' := [.int ((gI s 5 (ix a2)) / (3 : Int32))]) (s' := s) rfl ?_
  have hm279 : ∀ m278, m278 = (if ((gI s 5 (ix a2)) / (3 : Int32)) < (0 : Int32) then (0 : Int32) else ((gI s 5 (ix a2)) / (3 : Int32))) → wpcV PP 36 cm36 16 15 [some (.ref 0), some (.int a1), some (.int a2), some (.int m278), none, none] [] s Q := by
    intro m278 em278
    have h280 := h277 m278 em278
    refine wpc_sl (n := 2) (c' := 16) (pc' := 18) (ls' := [some (.ref 0), some (.int a1), some (.int a2), some (.int m278), some (.int m278), none]) (st' := []) (s' := s) rfl ?_
    exact wpc_lle (ls := [some (.ref 0), some (.int a1), some (.int a2), none, some (.int m278), none]) ⟨rfl, rfl, rfl, rfl, trivial⟩ h280
  refine wpc_if (a := 15) (b := 13) rfl (by decide) rfl rfl (wpc_br (p := ((gI s 5 (ix a2)) / (3 : Int32)) < (0 : Int32)) ⟨fun hc281 => ?_, fun hc281 => ?_⟩)
  · refine wpc_sl (n := 2) (c' := 16) (pc' := 15) (ls' := [some (.ref 0), some (.int a1), some (.int a2), some (.int (0 : Int32)), none, none]) (st' := []) (s' := s) rfl ?_
    first | exact hm279 _ (by simp only [if_pos hc281]) | exact wpc_lle (by repeat (first | exact trivial | refine ⟨rfl, ?_⟩)) (hm279 _ (by simp only [if_pos hc281]))
  · first | exact hm279 _ (by simp only [if_neg hc281]) | exact wpc_lle (by repeat (first | exact trivial | refine ⟨rfl, ?_⟩)) (hm279 _ (by simp only [if_neg hc281]))
theorem c36_18 (x1 : Int32) (x2 : Int32) (x4 : Int32) (s : St) (Q : St → Prop) (h : ((x4 < (gI s 0 28)) → inb 64 x2 ∧ (((((3 : Int32) * x4) + (1 : Int32)) < (gI s 6 (ix x2))) → inb 64 x2 ∧ (((gI s 5 (ix x2)) < (((3 : Int32) * x4) + (1 : Int32))) → calV PP 37 16 [.ref 0, .int x1, .int x4, .int x2] s (fun s293 => wpcV PP 36 cm36 16 68 [some (.ref 0), some (.int x1), some (.int x2), none, some (.int x4), none] [] s293 Q)) ∧ (¬ ((gI s 5 (ix x2)) < (((3 : Int32) * x4) + (1 : Int32))) → wpcV PP 36 cm36 16 68 [some (.ref 0), some (.int x1), some (.int x2), none, some (.int x4), none] [] s Q)) ∧ (¬ ((((3 : Int32) * x4) + (1 : Int32)) < (gI s 6 (ix x2))) → Q s)) ∧ (¬ (x4 < (gI s 0 28)) → Q s)) : wpcV PP 36 cm36 16 18 [some (.ref 0), some (.int x1), some (.int x2), none, some (.int x4), none] [] s Q := by
  refine wpc_sl (n := 3) (c' := 16) (pc' := 24) (ls' := [some (.ref 0), some (.int x1), some (.int x2), none, some (.int x4), none]) (st' := [.int (gI s 0 28), .int x4]) (s' := s) rfl ?_
  refine wpc_icmp (a := 74) (b := 27) rfl (by decide) rfl rfl (wpc_br (p := x4 < (gI s 0 28)) ⟨fun hc282 => ?_, fun hc282 => ?_⟩)
  · have h283 := h.1 hc282
    refine wpc_sl (n := 10) (c' := 16) (pc' := 42) (ls' := [some (.ref 0), some (.int x1), some (.int x2), none, some (.int x4), some (.int (((3 : Int32) * x4) + (1 : Int32)))]) (st' := [.int x2, .ref 6, .int (((3 : Int32) * x4) + (1 : Int32))]) (s' := s) rfl ?_
    refine wpc_ldaI (a := 5) (N := 64) (v := (gI s 6 (ix x2))) rfl rfl (by decide) h283.1 rfl ?_
    have h285 := h283.2
    refine wpc_icmp (a := 49) (b := 46) rfl (by decide) rfl rfl (wpc_br (p := (((3 : Int32) * x4) + (1 : Int32)) < (gI s 6 (ix x2))) ⟨fun hc286 => ?_, fun hc286 => ?_⟩)
    · have h287 := h285.1 hc286
      refine wpc_sl (n := 4) (c' := 16) (pc' := 56) (ls' := [some (.ref 0), some (.int x1), some (.int x2), none, some (.int x4), some (.int (((3 : Int32) * x4) + (1 : Int32)))]) (st' := [.int x2, .ref 5, .int (((3 : Int32) * x4) + (1 : Int32))]) (s' := s) rfl ?_
      refine wpc_ldaI (a := 4) (N := 64) (v := (gI s 5 (ix x2))) rfl rfl (by decide) h287.1 rfl ?_
      have h289 := h287.2
      refine wpc_icmp (a := 68) (b := 60) rfl (by decide) rfl rfl (wpc_br (p := (gI s 5 (ix x2)) < (((3 : Int32) * x4) + (1 : Int32))) ⟨fun hc290 => ?_, fun hc290 => ?_⟩)
      · have h291 := h289.1 hc290
        refine wpc_sl (n := 4) (c' := 16) (pc' := 65) (ls' := [some (.ref 0), some (.int x1), some (.int x2), none, some (.int x4), some (.int (((3 : Int32) * x4) + (1 : Int32)))]) (st' := [.int x2, .int x4, .int x1, .ref 0]) (s' := s) rfl ?_
        refine wpc_callV (m' := 37) (me' := cm37) (as := [.int x1, .int x4, .int x2]) (r := []) rfl rfl rfl rfl rfl ⟨by decide, (by first | decide | exact Nat.le_of_ble_eq_true rfl), (by first | decide | exact Nat.le_of_ble_eq_true rfl), rfl⟩ (calV.mono h291 fun s293 h295 => ?_)
        exact wpc_lle (ls := [some (.ref 0), some (.int x1), some (.int x2), none, some (.int x4), none]) ⟨rfl, rfl, rfl, rfl, trivial⟩ h295
      · have h292 := h289.2 hc290
        exact wpc_lle (ls := [some (.ref 0), some (.int x1), some (.int x2), none, some (.int x4), none]) ⟨rfl, rfl, rfl, rfl, trivial⟩ h292
    · have h288 := h285.2 hc286
      refine wpc_sl (n := 1) (c' := 16) (pc' := 74) (ls' := [some (.ref 0), some (.int x1), some (.int x2), none, some (.int x4), some (.int (((3 : Int32) * x4) + (1 : Int32)))]) (st' := []) (s' := s) rfl ?_
      exact wpc_ret rfl rfl (fun q => absurd q (by decide)) rfl ⟨rfl, h288⟩
  · have h284 := h.2 hc282
    exact wpc_ret rfl rfl (fun q => absurd q (by decide)) rfl ⟨rfl, h284⟩
theorem c36_68 (x1 : Int32) (x2 : Int32) (x4 : Int32) (s : St) (Q : St → Prop) (h : wpcV PP 36 cm36 16 18 [some (.ref 0), some (.int x1), some (.int x2), none, some (.int (x4 + (1 : Int32))), none] [] s Q) : wpcV PP 36 cm36 16 68 [some (.ref 0), some (.int x1), some (.int x2), none, some (.int x4), none] [] s Q := by
  refine wpc_sl (n := 2) (c' := 16) (pc' := 18) (ls' := [some (.ref 0), some (.int x1), some (.int x2), none, some (.int (x4 + (1 : Int32))), none]) (st' := []) (s' := s) rfl ?_
  exact h
theorem c34_in (a1 : Int32) (a2 : Int32) (s : St) (Q : Int32 → St → Prop) (h : calI PP 22 16 [.ref 0, .int a1] s (fun v235 s234 => ((v235 = (0 : Int32)) → Q (0 : Int32) s234) ∧ (¬ (v235 = (0 : Int32)) → calI PP 24 16 [.ref 0, .int a2] s234 (fun v241 s240 => ((v241 = (0 : Int32)) → Q (0 : Int32) s240) ∧ (¬ (v241 = (0 : Int32)) → calI PP 47 16 [.ref 0, .int a1, .int a2] s240 (fun v247 s246 => inb 256 v247 ∧ (((gI s246 12 (ix v247)) = (0 : Int32)) → inb 256 v247 ∧ inb 64 a2 ∧ inb 4 a1 ∧ (((gI s246 10 (ix a1)) < (gI s246 3 (ix a2))) → inb 64 a2 ∧ inb 4 a1 ∧ wpcI PP 34 cm34 16 70 [some (.ref 0), some (.int a1), some (.int a2), none, none] [] (sI (sI s246 12 (ix v247) (1 : Int32)) 10 (ix a1) (gI s246 3 (ix a2))) Q) ∧ (¬ ((gI s246 10 (ix a1)) < (gI s246 3 (ix a2))) → wpcI PP 34 cm34 16 70 [some (.ref 0), some (.int a1), some (.int a2), none, none] [] (sI s246 12 (ix v247) (1 : Int32)) Q)) ∧ (¬ ((gI s246 12 (ix v247)) = (0 : Int32)) → Q (0 : Int32) s246))))))) : calI PP 34 16 [.ref 0, .int a1, .int a2] s Q := by
  refine cal_of (me := cm34) (ls := [some (.ref 0), some (.int a1), some (.int a2), none, none]) rfl (Nat.le_of_ble_eq_true rfl) rfl ?_
  refine wpc_sl (n := 2) (c' := 16) (pc' := 2) (ls' := [some (.ref 0), some (.int a1), some (.int a2), none, none]) (st' := [.int a1, .ref 0]) (s' := s) rfl ?_
  refine wpc_callI (m' := 22) (me' := cm22) (as := [.int a1]) (r := []) rfl rfl rfl rfl rfl ⟨by decide, (by first | decide | exact Nat.le_of_ble_eq_true rfl), (by first | decide | exact Nat.le_of_ble_eq_true rfl), rfl⟩ (calI.mono h fun v235 s234 h236 => ?_)
  refine wpc_if (a := 16) (b := 8) rfl (by decide) rfl rfl (wpc_br (p := v235 = (0 : Int32)) ⟨fun hc237 => ?_, fun hc237 => ?_⟩)
  · have h238 := h236.1 hc237
    refine wpc_sl (n := 1) (c' := 16) (pc' := 17) (ls' := [some (.ref 0), some (.int a1), some (.int a2), none, none]) (st' := [.int (0 : Int32)]) (s' := s234) rfl ?_
    exact wpc_ret rfl rfl (fun q => absurd q (by decide)) rfl ⟨(0 : Int32), rfl, h238⟩
  · have h239 := h236.2 hc237
    refine wpc_sl (n := 2) (c' := 16) (pc' := 10) (ls' := [some (.ref 0), some (.int a1), some (.int a2), none, none]) (st' := [.int a2, .ref 0]) (s' := s234) rfl ?_
    refine wpc_callI (m' := 24) (me' := cm24) (as := [.int a2]) (r := []) rfl rfl rfl rfl rfl ⟨by decide, (by first | decide | exact Nat.le_of_ble_eq_true rfl), (by first | decide | exact Nat.le_of_ble_eq_true rfl), rfl⟩ (calI.mono h239 fun v241 s240 h242 => ?_)
    refine wpc_if (a := 18) (b := 16) rfl (by decide) rfl rfl (wpc_br (p := v241 = (0 : Int32)) ⟨fun hc243 => ?_, fun hc243 => ?_⟩)
    · have h244 := h242.1 hc243
      refine wpc_sl (n := 1) (c' := 16) (pc' := 17) (ls' := [some (.ref 0), some (.int a1), some (.int a2), none, none]) (st' := [.int (0 : Int32)]) (s' := s240) rfl ?_
      exact wpc_ret rfl rfl (fun q => absurd q (by decide)) rfl ⟨(0 : Int32), rfl, h244⟩
    · have h245 := h242.2 hc243
      refine wpc_sl (n := 3) (c' := 16) (pc' := 21) (ls' := [some (.ref 0), some (.int a1), some (.int a2), none, none]) (st' := [.int a2, .int a1, .ref 0]) (s' := s240) rfl ?_
      refine wpc_callI (m' := 47) (me' := cm47) (as := [.int a1, .int a2]) (r := []) rfl rfl rfl rfl rfl ⟨by decide, (by first | decide | exact Nat.le_of_ble_eq_true rfl), (by first | decide | exact Nat.le_of_ble_eq_true rfl), rfl⟩ (calI.mono h245 fun v247 s246 h248 => ?_)
      refine wpc_sl (n := 4) (c' := 16) (pc' := 30) (ls' := [some (.ref 0), some (.int a1), some (.int a2), some (.int v247), none]) (st' := [.int v247, .ref 12]) (s' := s246) rfl ?_
      refine wpc_ldaZ (a := 11) (N := 256) (v := (gI s246 12 (ix v247))) rfl rfl (by decide) h248.1 rfl ?_
      have h249 := h248.2
      refine wpc_if (a := 36) (b := 34) rfl (by decide) rfl rfl (wpc_br (p := (gI s246 12 (ix v247)) = (0 : Int32)) ⟨fun hc250 => ?_, fun hc250 => ?_⟩)
      · have h251 := h249.1 hc250
        refine wpc_sl (n := 4) (c' := 16) (pc' := 42) (ls' := [some (.ref 0), some (.int a1), some (.int a2), some (.int v247), none]) (st' := [.int (1 : Int32), .int v247, .ref 12]) (s' := s246) rfl ?_
        refine wpc_staZ (a := 11) (N := 256) (s' := (sI s246 12 (ix v247) (1 : Int32))) rfl rfl (by decide) h251.1 rfl ?_
        have h253 := h251.2
        refine wpc_sl (n := 3) (c' := 16) (pc' := 48) (ls' := [some (.ref 0), some (.int a1), some (.int a2), some (.int v247), none]) (st' := [.int a2, .ref 3]) (s' := (sI s246 12 (ix v247) (1 : Int32))) rfl ?_
        refine wpc_ldaI (a := 2) (N := 64) (v := (gI s246 3 (ix a2))) rfl rfl (by decide) h253.1 rfl ?_
        have h254 := h253.2
        refine wpc_sl (n := 3) (c' := 16) (pc' := 54) (ls' := [some (.ref 0), some (.int a1), some (.int a2), some (.int v247), none]) (st' := [.int a1, .ref 10, .int (gI s246 3 (ix a2))]) (s' := (sI s246 12 (ix v247) (1 : Int32))) rfl ?_
        refine wpc_ldaI (a := 9) (N := 4) (v := (gI s246 10 (ix a1))) rfl rfl (by decide) h254.1 rfl ?_
        have h255 := h254.2
        refine wpc_icmp (a := 70) (b := 58) rfl (by decide) rfl rfl (wpc_br (p := (gI s246 10 (ix a1)) < (gI s246 3 (ix a2))) ⟨fun hc256 => ?_, fun hc256 => ?_⟩)
        · have h257 := h255.1 hc256
          refine wpc_sl (n := 6) (c' := 16) (pc' := 68) (ls' := [some (.ref 0), some (.int a1), some (.int a2), some (.int v247), none]) (st' := [.int a2, .ref 3, .int a1, .ref 10]) (s' := (sI s246 12 (ix v247) (1 : Int32))) rfl ?_
          refine wpc_ldaI (a := 2) (N := 64) (v := (gI s246 3 (ix a2))) rfl rfl (by decide) h257.1 rfl ?_
          have h259 := h257.2
          refine wpc_staI (a := 9) (N := 4) (s' := (sI (sI s246 12 (ix v247) (1 : Int32)) 10 (ix a1) (gI s246 3 (ix a2)))) rfl rfl (by decide) h259.1 rfl ?_
          have h260 := h259.2
          exact wpc_lle (ls := [some (.ref 0), some (.int a1), some (.int a2), none, none]) ⟨rfl, rfl, rfl, trivial⟩ h260
        · have h258 := h255.2 hc256
          exact wpc_lle (ls := [some (.ref 0), some (.int a1), some (.int a2), none, none]) ⟨rfl, rfl, rfl, trivial⟩ h258
      · have h252 := h249.2 hc250
        refine wpc_sl (n := 1) (c' := 16) (pc' := 35) (ls' := [some (.ref 0), some (.int a1), some (.int a2), some (.int v247), none]) (st' := [.int (0 : Int32)]) (s' := s246) rfl ?_
        exact wpc_ret rfl rfl (fun q => absurd q (by decide)) rfl ⟨(0 : Int32), rfl, h252⟩
theorem c34_70 (x1 : Int32) (x2 : Int32) (s : St) (Q : Int32 → St → Prop) (h : inb 64 x2 ∧ (((gI s 1 (ix x2)) = (0 : Int32)) → wpcI PP 34 cm34 16 89 [some (.ref 0), some (.int x1), some (.int x2), none, none] [] s Q) ∧ (¬ ((gI s 1 (ix x2)) = (0 : Int32)) → (((gI s 1 (ix x2)) = (1 : Int32)) → wpcI PP 34 cm34 16 89 [some (.ref 0), some (.int x1), some (.int x2), none, none] [] s Q) ∧ (¬ ((gI s 1 (ix x2)) = (1 : Int32)) → calV PP 36 16 [.ref 0, .int x1, .int x2] s (fun s268 => Q (1 : Int32) s268)))) : wpcI PP 34 cm34 16 70 [some (.ref 0), some (.int x1), some (.int x2), none, none] [] s Q := by
  refine wpc_sl (n := 3) (c' := 16) (pc' := 75) (ls' := [some (.ref 0), some (.int x1), some (.int x2), none, none]) (st' := [.int x2, .ref 1]) (s' := s) rfl ?_
  refine wpc_ldaI (a := 0) (N := 64) (v := (gI s 1 (ix x2))) rfl rfl (by decide) h.1 rfl ?_
  have h261 := h.2
  refine wpc_sl (n := 2) (c' := 16) (pc' := 80) (ls' := [some (.ref 0), some (.int x1), some (.int x2), none, some (.int (gI s 1 (ix x2)))]) (st' := [.int (gI s 1 (ix x2))]) (s' := s) rfl ?_
  refine wpc_if (a := 89) (b := 83) rfl (by decide) rfl rfl (wpc_br (p := (gI s 1 (ix x2)) = (0 : Int32)) ⟨fun hc262 => ?_, fun hc262 => ?_⟩)
  · have h263 := h261.1 hc262
    exact wpc_lle (ls := [some (.ref 0), some (.int x1), some (.int x2), none, none]) ⟨rfl, rfl, rfl, trivial⟩ h263
  · have h264 := h261.2 hc262
    refine wpc_sl (n := 2) (c' := 16) (pc' := 86) (ls' := [some (.ref 0), some (.int x1), some (.int x2), none, some (.int (gI s 1 (ix x2)))]) (st' := [.int (1 : Int32), .int (gI s 1 (ix x2))]) (s' := s) rfl ?_
    refine wpc_icmp (a := 98) (b := 89) rfl (by decide) rfl rfl (wpc_br (p := (gI s 1 (ix x2)) = (1 : Int32)) ⟨fun hc265 => ?_, fun hc265 => ?_⟩)
    · have h266 := h264.1 hc265
      exact wpc_lle (ls := [some (.ref 0), some (.int x1), some (.int x2), none, none]) ⟨rfl, rfl, rfl, trivial⟩ h266
    · have h267 := h264.2 hc265
      refine wpc_sl (n := 3) (c' := 16) (pc' := 101) (ls' := [some (.ref 0), some (.int x1), some (.int x2), none, some (.int (gI s 1 (ix x2)))]) (st' := [.int x2, .int x1, .ref 0]) (s' := s) rfl ?_
      refine wpc_callV (m' := 36) (me' := cm36) (as := [.int x1, .int x2]) (r := []) rfl rfl rfl rfl rfl ⟨by decide, (by first | decide | exact Nat.le_of_ble_eq_true rfl), (by first | decide | exact Nat.le_of_ble_eq_true rfl), rfl⟩ (calV.mono h267 fun s268 h270 => ?_)
      refine wpc_sl (n := 1) (c' := 16) (pc' := 105) (ls' := [some (.ref 0), some (.int x1), some (.int x2), none, some (.int (gI s 1 (ix x2)))]) (st' := [.int (1 : Int32)]) (s' := s268) rfl ?_
      exact wpc_ret rfl rfl (fun q => absurd q (by decide)) rfl ⟨(1 : Int32), rfl, h270⟩
theorem c34_89 (x1 : Int32) (x2 : Int32) (s : St) (Q : Int32 → St → Prop) (h : False) : wpcI PP 34 cm34 16 89 [some (.ref 0), some (.int x1), some (.int x2), none, none] [] s Q := by
  refine wpc_sl (n := 3) (c' := 16) (pc' := 92) (ls' := [some (.ref 0), some (.int x1), some (.int x2), none, none]) (st' := [.int x2, .int x1, .ref 0]) (s' := s) rfl ?_
  exact h.elim
theorem c32_in (a1 : Int32) (s : St) (Q : St → Prop) (h : (((gI s 0 40) < (gI s 0 30)) → inb 32 (gI s 0 40) ∧ Q (sI (sI s 9 (ix (gI s 0 40)) a1) 0 40 ((gI s 0 40) + (1 : Int32)))) ∧ (¬ ((gI s 0 40) < (gI s 0 30)) → Q s)) : calV PP 32 16 [.ref 0, .int a1] s Q := by
  refine cal_of (me := cm32) (ls := [some (.ref 0), some (.int a1)]) rfl (Nat.le_of_ble_eq_true rfl) rfl ?_
  refine wpc_sl (n := 4) (c' := 16) (pc' := 8) (ls' := [some (.ref 0), some (.int a1)]) (st' := [.int (gI s 0 30), .int (gI s 0 40)]) (s' := s) rfl ?_
  refine wpc_icmp (a := 12) (b := 11) rfl (by decide) rfl rfl (wpc_br (p := (gI s 0 40) < (gI s 0 30)) ⟨fun hc332 => ?_, fun hc332 => ?_⟩)
  · have h333 := h.1 hc332
    refine wpc_sl (n := 5) (c' := 16) (pc' := 21) (ls' := [some (.ref 0), some (.int a1)]) (st' := [.int a1, .int (gI s 0 40), .ref 9]) (s' := s) rfl ?_
    refine wpc_staI (a := 8) (N := 32) (s' := (sI s 9 (ix (gI s 0 40)) a1)) rfl rfl (by decide) h333.1 rfl ?_
    have h335 := h333.2
    refine wpc_sl (n := 6) (c' := 16) (pc' := 32) (ls' := [some (.ref 0), some (.int a1)]) (st' := []) (s' := (sI (sI s 9 (ix (gI s 0 40)) a1) 0 40 ((gI s 0 40) + (1 : Int32)))) rfl ?_
    exact wpc_ret rfl rfl (fun q => absurd q (by decide)) rfl ⟨rfl, h335⟩
  · have h334 := h.2 hc332
    exact wpc_ret rfl rfl (fun q => absurd q (by decide)) rfl ⟨rfl, h334⟩
theorem c28_in (a1 : Int32) (a2 : Int32) (s : St) (Q : St → Prop) (h : calI PP 34 16 [.ref 0, .int a1, .int a2] s (fun v229 s228 => calV PP 32 16 [.ref 0, .int a2] s228 (fun s231 => Q s231))) : calV PP 28 16 [.ref 0, .int a1, .int a2] s Q := by
  refine cal_of (me := cm28) (ls := [some (.ref 0), some (.int a1), some (.int a2)]) rfl (Nat.le_of_ble_eq_true rfl) rfl ?_
  refine wpc_sl (n := 3) (c' := 16) (pc' := 3) (ls' := [some (.ref 0), some (.int a1), some (.int a2)]) (st' := [.int a2, .int a1, .ref 0]) (s' := s) rfl ?_
  refine wpc_callI (m' := 34) (me' := cm34) (as := [.int a1, .int a2]) (r := []) rfl rfl rfl rfl rfl ⟨by decide, (by first | decide | exact Nat.le_of_ble_eq_true rfl), (by first | decide | exact Nat.le_of_ble_eq_true rfl), rfl⟩ (calI.mono h fun v229 s228 h230 => ?_)
  refine wpc_sl (n := 3) (c' := 16) (pc' := 9) (ls' := [some (.ref 0), some (.int a1), some (.int a2)]) (st' := [.int a2, .ref 0]) (s' := s228) rfl ?_
  refine wpc_callV (m' := 32) (me' := cm32) (as := [.int a2]) (r := []) rfl rfl rfl rfl rfl ⟨by decide, (by first | decide | exact Nat.le_of_ble_eq_true rfl), (by first | decide | exact Nat.le_of_ble_eq_true rfl), rfl⟩ (calV.mono h230 fun s231 h233 => ?_)
  exact wpc_ret rfl rfl (fun q => absurd q (by decide)) rfl ⟨rfl, h233⟩
theorem c4_in (a1 : Int32) (a2 : Int32) (a3 : Int32) (a4 : Int32) (s : St) (Q : Int32 → St → Prop) (h : calI PP 20 16 [.ref 0, .int a1, .int a2, .int a3, .int a4] s (fun v121 s120 => ((v121 = (0 : Int32)) → Q (-1 : Int32) s120) ∧ (¬ (v121 = (0 : Int32)) → calI PP 40 16 [.ref 0, .int a1, .int a3] s120 (fun v127 s126 => calI PP 40 16 [.ref 0, .int a1, .int a4] s126 (fun v130 s129 => ((v127 < (0 : Int32)) → Q (-1 : Int32) s129) ∧ (¬ (v127 < (0 : Int32)) → ((v130 < (0 : Int32)) → Q (-1 : Int32) s129) ∧ (¬ (v130 < (0 : Int32)) → ∀ m138, m138 = (if (a2 / (4 : Int32)) = (0 : Int32) then (3 : Int32) else (2 : Int32)) → (calI PP 44 16 [.ref 0, .int a1, .int (a2 % (4 : Int32)), .int v130] s129 (fun v142 s141 => calI PP 26 16 [.ref 0, .int m138, .int a1, .int (0 : Int32)] s141 (fun v145 s144 => calV PP 27 16 [.ref 0, .int v145, .int (a2 % (4 : Int32)), .int ((3 : Int32) * v127), .int v142] s144 (fun s147 => inb 64 v145 ∧ calV PP 28 16 [.ref 0, .int a1, .int v145] (sI s147 7 (ix v145) (a2 / (4 : Int32))) (fun s151 => Q v145 s151)))))))))))) : calI PP 4 16 [.ref 0, .int a1, .int a2, .int a3, .int a4] s Q := by
  refine cal_of (me := cm4) (ls := [some (.ref 0), some (.int a1), some (.int a2), some (.int a3), some (.int a4), none, none, none, none, none, none, none]) rfl (Nat.le_of_ble_eq_true rfl) rfl ?_
  refine wpc_sl (n := 5) (c' := 16) (pc' := 6) (ls' := [some (.ref 0), some (.int a1), some (.int a2), some (.int a3), some (.int a4), none, none, none, none, none, none, none]) (st' := [.int a4, .int a3, .int a2, .int a1, .ref 0]) (s' := s) rfl ?_
  refine wpc_callI (m' := 20) (me' := cm20) (as := [.int a1, .int a2, .int a3, .int a4]) (r := []) rfl rfl rfl rfl rfl ⟨by decide, (by first | decide | exact Nat.le_of_ble_eq_true rfl), (by first | decide | exact Nat.le_of_ble_eq_true rfl), rfl⟩ (calI.mono h fun v121 s120 h122 => ?_)
  refine wpc_if (a := 14) (b := 12) rfl (by decide) rfl rfl (wpc_br (p := v121 = (0 : Int32)) ⟨fun hc123 => ?_, fun hc123 => ?_⟩)
  · have h124 := h122.1 hc123
    refine wpc_sl (n := 1) (c' := 16) (pc' := 13) (ls' := [some (.ref 0), some (.int a1), some (.int a2), some (.int a3), some (.int a4), none, none, none, none, none, none, none]) (st' := [.int (-1 : Int32)]) (s' := s120) rfl ?_
    exact wpc_ret rfl rfl (fun q => absurd q (by decide)) rfl ⟨(-1 : Int32), rfl, h124⟩
  · have h125 := h122.2 hc123
    refine wpc_sl (n := 11) (c' := 16) (pc' := 27) (ls' := [some (.ref 0), some (.int a1), some (.int a2), some (.int a3), some (.int a4), some (.int (a2 % (4 : Int32))), some (.int (a2 / (4 : Int32))), none, none, none, none, none]) (st' := [.int a3, .int a1, .ref 0]) (s' := s120) rfl ?_
    refine wpc_callI (m' := 40) (me' := cm40) (as := [.int a1, .int a3]) (r := []) rfl rfl rfl rfl rfl ⟨by decide, (by first | decide | exact Nat.le_of_ble_eq_true rfl), (by first | decide | exact Nat.le_of_ble_eq_true rfl), rfl⟩ (calI.mono h125 fun v127 s126 h128 => ?_)
    refine wpc_sl (n := 4) (c' := 16) (pc' := 36) (ls' := [some (.ref 0), some (.int a1), some (.int a2), some (.int a3), some (.int a4), some (.int (a2 % (4 : Int32))), some (.int (a2 / (4 : Int32))), some (.int v127), none, none, none, none]) (st' := [.int a4, .int a1, .ref 0]) (s' := s126) rfl ?_
    refine wpc_callI (m' := 40) (me' := cm40) (as := [.int a1, .int a4]) (r := []) rfl rfl rfl rfl rfl ⟨by decide, (by first | decide | exact Nat.le_of_ble_eq_true rfl), (by first | decide | exact Nat.le_of_ble_eq_true rfl), rfl⟩ (calI.mono h128 fun v130 s129 h131 => ?_)
    refine wpc_sl (n := 2) (c' := 16) (pc' := 43) (ls' := [some (.ref 0), some (.int a1), some (.int a2), some (.int a3), some (.int a4), some (.int (a2 % (4 : Int32))), some (.int (a2 / (4 : Int32))), some (.int v127), some (.int v130), none, none, none]) (st' := [.int v127]) (s' := s129) rfl ?_
    refine wpc_if (a := 51) (b := 46) rfl (by decide) rfl rfl (wpc_br (p := v127 < (0 : Int32)) ⟨fun hc132 => ?_, fun hc132 => ?_⟩)
    · have h133 := h131.1 hc132
      refine wpc_sl (n := 1) (c' := 16) (pc' := 52) (ls' := [some (.ref 0), some (.int a1), some (.int a2), some (.int a3), some (.int a4), some (.int (a2 % (4 : Int32))), some (.int (a2 / (4 : Int32))), some (.int v127), some (.int v130), none, none, none]) (st' := [.int (-1 : Int32)]) (s' := s129) rfl ?_
      exact wpc_ret rfl rfl (fun q => absurd q (by decide)) rfl ⟨(-1 : Int32), rfl, h133⟩
    · have h134 := h131.2 hc132
      refine wpc_sl (n := 1) (c' := 16) (pc' := 48) (ls' := [some (.ref 0), some (.int a1), some (.int a2), some (.int a3), some (.int a4), some (.int (a2 % (4 : Int32))), some (.int (a2 / (4 : Int32))), some (.int v127), some (.int v130), none, none, none]) (st' := [.int v130]) (s' := s129) rfl ?_
      refine wpc_if (a := 53) (b := 51) rfl (by decide) rfl rfl (wpc_br (p := v130 < (0 : Int32)) ⟨fun hc135 => ?_, fun hc135 => ?_⟩)
      · have h136 := h134.1 hc135
        refine wpc_sl (n := 1) (c' := 16) (pc' := 52) (ls' := [some (.ref 0), some (.int a1), some (.int a2), some (.int a3), some (.int a4), some (.int (a2 % (4 : Int32))), some (.int (a2 / (4 : Int32))), some (.int v127), some (.int v130), none, none, none]) (st' := [.int (-1 : Int32)]) (s' := s129) rfl ?_
        exact wpc_ret rfl rfl (fun q => absurd q (by decide)) rfl ⟨(-1 : Int32), rfl, h136⟩
      · have h137 := h134.2 hc135
        refine wpc_sl (n := 3) (c' := 16) (pc' := 58) (ls' := [some (.ref 0), some (.int a1), some (.int a2), some (.int a3), some (.int a4), some (.int (a2 % (4 : Int32))), some (.int (a2 / (4 : Int32))), some (.int v127), some (.int v130), some (.int (2 : Int32)), none, none]) (st' := [.int (a2 / (4 : Int32))]) (s' := s129) rfl ?_
        have hm139 : ∀ m138, m138 = (if (a2 / (4 : Int32)) = (0 : Int32) then (3 : Int32) else (2 : Int32)) → wpcI PP 4 cm4 16 64 [some (.ref 0), some (.int a1), some (.int a2), some (.int a3), some (.int a4), some (.int (a2 % (4 : Int32))), some (.int (a2 / (4 : Int32))), some (.int v127), some (.int v130), some (.int m138), none, none] [] s129 Q := by
          intro m138 em138
          have h140 := h137 m138 em138
          refine wpc_sl (n := 4) (c' := 16) (pc' := 70) (ls' := [some (.ref 0), some (.int a1), some (.int a2), some (.int a3), some (.int a4), some (.int (a2 % (4 : Int32))), some (.int (a2 / (4 : Int32))), some (.int v127), some (.int v130), some (.int m138), none, none]) (st' := [.int v130, .int (a2 % (4 : Int32)), .int a1, .ref 0]) (s' := s129) rfl ?_
          refine wpc_callI (m' := 44) (me' := cm44) (as := [.int a1, .int (a2 % (4 : Int32)), .int v130]) (r := []) rfl rfl rfl rfl rfl ⟨by decide, (by first | decide | exact Nat.le_of_ble_eq_true rfl), (by first | decide | exact Nat.le_of_ble_eq_true rfl), rfl⟩ (calI.mono h140 fun v142 s141 h143 => ?_)
          refine wpc_sl (n := 5) (c' := 16) (pc' := 80) (ls' := [some (.ref 0), some (.int a1), some (.int a2), some (.int a3), some (.int a4), some (.int (a2 % (4 : Int32))), some (.int (a2 / (4 : Int32))), some (.int v127), some (.int v130), some (.int m138), some (.int v142), none]) (st' := [.int (0 : Int32), .int a1, .int m138, .ref 0]) (s' := s141) rfl ?_
          refine wpc_callI (m' := 26) (me' := cm26) (as := [.int m138, .int a1, .int (0 : Int32)]) (r := []) rfl rfl rfl rfl rfl ⟨by decide, (by first | decide | exact Nat.le_of_ble_eq_true rfl), (by first | decide | exact Nat.le_of_ble_eq_true rfl), rfl⟩ (calI.mono h143 fun v145 s144 h146 => ?_)
          refine wpc_sl (n := 8) (c' := 16) (pc' := 96) (ls' := [some (.ref 0), some (.int a1), some (.int a2), some (.int a3), some (.int a4), some (.int (a2 % (4 : Int32))), some (.int (a2 / (4 : Int32))), some (.int v127), some (.int v130), some (.int m138), some (.int v142), some (.int v145)]) (st' := [.int v142, .int ((3 : Int32) * v127), .int (a2 % (4 : Int32)), .int v145, .ref 0]) (s' := s144) rfl ?_
          refine wpc_callV (m' := 27) (me' := cm27) (as := [.int v145, .int (a2 % (4 : Int32)), .int ((3 : Int32) * v127), .int v142]) (r := []) rfl rfl rfl rfl rfl ⟨by decide, (by first | decide | exact Nat.le_of_ble_eq_true rfl), (by first | decide | exact Nat.le_of_ble_eq_true rfl), rfl⟩ (calV.mono h146 fun s147 h149 => ?_)
          refine wpc_sl (n := 4) (c' := 16) (pc' := 107) (ls' := [some (.ref 0), some (.int a1), some (.int a2), some (.int a3), some (.int a4), some (.int (a2 % (4 : Int32))), some (.int (a2 / (4 : Int32))), some (.int v127), some (.int v130), some (.int m138), some (.int v142), some (.int v145)]) (st' := [.int (a2 / (4 : Int32)), .int v145, .ref 7]) (s' := s147) rfl ?_
          refine wpc_staI (a := 6) (N := 64) (s' := (sI s147 7 (ix v145) (a2 / (4 : Int32)))) rfl rfl (by decide) h149.1 rfl ?_
          have h150 := h149.2
          refine wpc_sl (n := 3) (c' := 16) (pc' := 112) (ls' := [some (.ref 0), some (.int a1), some (.int a2), some (.int a3), some (.int a4), some (.int (a2 % (4 : Int32))), some (.int (a2 / (4 : Int32))), some (.int v127), some (.int v130), some (.int m138), some (.int v142), some (.int v145)]) (st' := [.int v145, .int a1, .ref 0]) (s' := (sI s147 7 (ix v145) (a2 / (4 : Int32)))) rfl ?_
          refine wpc_callV (m' := 28) (me' := cm28) (as := [.int a1, .int v145]) (r := []) rfl rfl rfl rfl rfl ⟨by decide, (by first | decide | exact Nat.le_of_ble_eq_true rfl), (by first | decide | exact Nat.le_of_ble_eq_true rfl), rfl⟩ (calV.mono h150 fun s151 h153 => ?_)
          refine wpc_sl (n := 1) (c' := 16) (pc' := 117) (ls' := [some (.ref 0), some (.int a1), some (.int a2), some (.int a3), some (.int a4), some (.int (a2 % (4 : Int32))), some (.int (a2 / (4 : Int32))), some (.int v127), some (.int v130), some (.int m138), some (.int v142), some (.int v145)]) (st' := [.int v145]) (s' := s151) rfl ?_
          exact wpc_ret rfl rfl (fun q => absurd q (by decide)) rfl ⟨v145, rfl, h153⟩
        refine wpc_if (a := 64) (b := 61) rfl (by decide) rfl rfl (wpc_br (p := (a2 / (4 : Int32)) = (0 : Int32)) ⟨fun hc154 => ?_, fun hc154 => ?_⟩)
        · refine wpc_sl (n := 2) (c' := 16) (pc' := 64) (ls' := [some (.ref 0), some (.int a1), some (.int a2), some (.int a3), some (.int a4), some (.int (a2 % (4 : Int32))), some (.int (a2 / (4 : Int32))), some (.int v127), some (.int v130), some (.int (3 : Int32)), none, none]) (st' := []) (s' := s129) rfl ?_
          first | exact hm139 _ (by simp only [if_pos hc154]) | exact wpc_lle (by repeat (first | exact trivial | refine ⟨rfl, ?_⟩)) (hm139 _ (by simp only [if_pos hc154]))
        · first | exact hm139 _ (by simp only [if_neg hc154]) | exact wpc_lle (by repeat (first | exact trivial | refine ⟨rfl, ?_⟩)) (hm139 _ (by simp only [if_neg hc154]))
theorem c8_in (a1 : Int32) (a2 : Int32) (s : St) (Q : Int32 → St → Prop) (h : calI PP 22 16 [.ref 0, .int a1] s (fun v337 s336 => ((v337 = (0 : Int32)) → Q (-1 : Int32) s336) ∧ (¬ (v337 = (0 : Int32)) → calI PP 22 16 [.ref 0, .int a2] s336 (fun v343 s342 => ((v343 = (0 : Int32)) → Q (-1 : Int32) s342) ∧ (¬ (v343 = (0 : Int32)) → ((a1 = a2) → Q (-1 : Int32) s342) ∧ (¬ (a1 = a2) → wpcI PP 8 cm8 16 32 [some (.ref 0), some (.int a1), some (.int a2), some (.int (0 : Int32)), some (.int (0 : Int32))] [] s342 Q)))))) : calI PP 8 16 [.ref 0, .int a1, .int a2] s Q := by
  refine cal_of (me := cm8) (ls := [some (.ref 0), some (.int a1), some (.int a2), none, none]) rfl (Nat.le_of_ble_eq_true rfl) rfl ?_
  refine wpc_sl (n := 2) (c' := 16) (pc' := 2) (ls' := [some (.ref 0), some (.int a1), some (.int a2), none, none]) (st' := [.int a1, .ref 0]) (s' := s) rfl ?_
  refine wpc_callI (m' := 22) (me' := cm22) (as := [.int a1]) (r := []) rfl rfl rfl rfl rfl ⟨by decide, (by first | decide | exact Nat.le_of_ble_eq_true rfl), (by first | decide | exact Nat.le_of_ble_eq_true rfl), rfl⟩ (calI.mono h fun v337 s336 h338 => ?_)
  refine wpc_if (a := 10) (b := 8) rfl (by decide) rfl rfl (wpc_br (p := v337 = (0 : Int32)) ⟨fun hc339 => ?_, fun hc339 => ?_⟩)
  · have h340 := h338.1 hc339
    refine wpc_sl (n := 1) (c' := 16) (pc' := 9) (ls' := [some (.ref 0), some (.int a1), some (.int a2), none, none]) (st' := [.int (-1 : Int32)]) (s' := s336) rfl ?_
    exact wpc_ret rfl rfl (fun q => absurd q (by decide)) rfl ⟨(-1 : Int32), rfl, h340⟩
  · have h341 := h338.2 hc339
    refine wpc_sl (n := 2) (c' := 16) (pc' := 12) (ls' := [some (.ref 0), some (.int a1), some (.int a2), none, none]) (st' := [.int a2, .ref 0]) (s' := s336) rfl ?_
    refine wpc_callI (m' := 22) (me' := cm22) (as := [.int a2]) (r := []) rfl rfl rfl rfl rfl ⟨by decide, (by first | decide | exact Nat.le_of_ble_eq_true rfl), (by first | decide | exact Nat.le_of_ble_eq_true rfl), rfl⟩ (calI.mono h341 fun v343 s342 h344 => ?_)
    refine wpc_if (a := 20) (b := 18) rfl (by decide) rfl rfl (wpc_br (p := v343 = (0 : Int32)) ⟨fun hc345 => ?_, fun hc345 => ?_⟩)
    · have h346 := h344.1 hc345
      refine wpc_sl (n := 1) (c' := 16) (pc' := 19) (ls' := [some (.ref 0), some (.int a1), some (.int a2), none, none]) (st' := [.int (-1 : Int32)]) (s' := s342) rfl ?_
      exact wpc_ret rfl rfl (fun q => absurd q (by decide)) rfl ⟨(-1 : Int32), rfl, h346⟩
    · have h347 := h344.2 hc345
      refine wpc_sl (n := 2) (c' := 16) (pc' := 22) (ls' := [some (.ref 0), some (.int a1), some (.int a2), none, none]) (st' := [.int a2, .int a1]) (s' := s342) rfl ?_
      refine wpc_icmp (a := 27) (b := 25) rfl (by decide) rfl rfl (wpc_br (p := a1 = a2) ⟨fun hc348 => ?_, fun hc348 => ?_⟩)
      · have h349 := h347.1 hc348
        refine wpc_sl (n := 1) (c' := 16) (pc' := 26) (ls' := [some (.ref 0), some (.int a1), some (.int a2), none, none]) (st' := [.int (-1 : Int32)]) (s' := s342) rfl ?_
        exact wpc_ret rfl rfl (fun q => absurd q (by decide)) rfl ⟨(-1 : Int32), rfl, h349⟩
      · have h350 := h347.2 hc348
        refine wpc_sl (n := 4) (c' := 16) (pc' := 32) (ls' := [some (.ref 0), some (.int a1), some (.int a2), some (.int (0 : Int32)), some (.int (0 : Int32))]) (st' := []) (s' := s342) rfl ?_
        exact h350
theorem c8_32 (x1 : Int32) (x2 : Int32) (x3 : Int32) (x4 : Int32) (s : St) (Q : Int32 → St → Prop) (h : ((x4 < (gI s 0 31)) → calI PP 47 16 [.ref 0, .int x1, .int x4] s (fun v355 s354 => inb 256 v355 ∧ (((gI s354 12 (ix v355)) = (0 : Int32)) → wpcI PP 8 cm8 16 72 [some (.ref 0), some (.int x1), some (.int x2), some (.int x3), some (.int x4)] [] s354 Q) ∧ (¬ ((gI s354 12 (ix v355)) = (0 : Int32)) → calI PP 34 16 [.ref 0, .int x2, .int x4] s354 (fun v362 s361 => ∀ m364, m364 = (if v362 = (0 : Int32) then x3 else (x3 + (1 : Int32))) → (wpcI PP 8 cm8 16 72 [some (.ref 0), some (.int x1), some (.int x2), some (.int m364), some (.int x4)] [] s361 Q))))) ∧ (¬ (x4 < (gI s 0 31)) → Q x3 s)) : wpcI PP 8 cm8 16 32 [some (.ref 0), some (.int x1), some (.int x2), some (.int x3), some (.int x4)] [] s Q := by
  refine wpc_sl (n := 3) (c' := 16) (pc' := 38) (ls' := [some (.ref 0), some (.int x1), some (.int x2), some (.int x3), some (.int x4)]) (st' := [.int (gI s 0 31), .int x4]) (s' := s) rfl ?_
  refine wpc_icmp (a := 78) (b := 41) rfl (by decide) rfl rfl (wpc_br (p := x4 < (gI s 0 31)) ⟨fun hc351 => ?_, fun hc351 => ?_⟩)
  · have h352 := h.1 hc351
    refine wpc_sl (n := 5) (c' := 16) (pc' := 49) (ls' := [some (.ref 0), some (.int x1), some (.int x2), some (.int x3), some (.int x4)]) (st' := [.int x4, .int x1, .ref 0, .ref 12]) (s' := s) rfl ?_
    refine wpc_callI (m' := 47) (me' := cm47) (as := [.int x1, .int x4]) (r := [.ref 12]) rfl rfl rfl rfl rfl ⟨by decide, (by first | decide | exact Nat.le_of_ble_eq_true rfl), (by first | decide | exact Nat.le_of_ble_eq_true rfl), rfl⟩ (calI.mono h352 fun v355 s354 h356 => ?_)
    refine wpc_ldaZ (a := 11) (N := 256) (v := (gI s354 12 (ix v355))) rfl rfl (by decide) h356.1 rfl ?_
    have h357 := h356.2
    refine wpc_if (a := 59) (b := 56) rfl (by decide) rfl rfl (wpc_br (p := (gI s354 12 (ix v355)) = (0 : Int32)) ⟨fun hc358 => ?_, fun hc358 => ?_⟩)
    · have h359 := h357.1 hc358
      refine wpc_sl (n := 1) (c' := 16) (pc' := 72) (ls' := [some (.ref 0), some (.int x1), some (.int x2), some (.int x3), some (.int x4)]) (st' := []) (s' := s354) rfl ?_
      exact h359
    · have h360 := h357.2 hc358
      refine wpc_sl (n := 3) (c' := 16) (pc' := 63) (ls' := [some (.ref 0), some (.int x1), some (.int x2), some (.int x3), some (.int x4)]) (st' := [.int x4, .int x2, .ref 0]) (s' := s354) rfl ?_
      refine wpc_callI (m' := 34) (me' := cm34) (as := [.int x2, .int x4]) (r := []) rfl rfl rfl rfl rfl ⟨by decide, (by first | decide | exact Nat.le_of_ble_eq_true rfl), (by first | decide | exact Nat.le_of_ble_eq_true rfl), rfl⟩ (calI.mono h360 fun v362 s361 h363 => ?_)
      have hm365 : ∀ m364, m364 = (if v362 = (0 : Int32) then x3 else (x3 + (1 : Int32))) → wpcI PP 8 cm8 16 72 [some (.ref 0), some (.int x1), some (.int x2), some (.int m364), some (.int x4)] [] s361 Q := by
        intro m364 em364
        have h366 := h363 m364 em364
        exact h366
      refine wpc_if (a := 72) (b := 69) rfl (by decide) rfl rfl (wpc_br (p := v362 = (0 : Int32)) ⟨fun hc367 => ?_, fun hc367 => ?_⟩)
      · first | exact hm365 _ (by simp only [if_pos hc367]) | exact wpc_lle (by repeat (first | exact trivial | refine ⟨rfl, ?_⟩)) (hm365 _ (by simp only [if_pos hc367]))
      · refine wpc_sl (n := 1) (c' := 16) (pc' := 72) (ls' := [some (.ref 0), some (.int x1), some (.int x2), some (.int (x3 + (1 : Int32))), some (.int x4)]) (st' := []) (s' := s361) rfl ?_
        first | exact hm365 _ (by simp only [if_neg hc367]) | exact wpc_lle (by repeat (first | exact trivial | refine ⟨rfl, ?_⟩)) (hm365 _ (by simp only [if_neg hc367]))
  · have h353 := h.2 hc351
    refine wpc_sl (n := 1) (c' := 16) (pc' := 79) (ls' := [some (.ref 0), some (.int x1), some (.int x2), some (.int x3), some (.int x4)]) (st' := [.int x3]) (s' := s) rfl ?_
    exact wpc_ret rfl rfl (fun q => absurd q (by decide)) rfl ⟨x3, rfl, h353⟩
theorem c8_72 (x1 : Int32) (x2 : Int32) (x3 : Int32) (x4 : Int32) (s : St) (Q : Int32 → St → Prop) (h : wpcI PP 8 cm8 16 32 [some (.ref 0), some (.int x1), some (.int x2), some (.int x3), some (.int (x4 + (1 : Int32)))] [] s Q) : wpcI PP 8 cm8 16 72 [some (.ref 0), some (.int x1), some (.int x2), some (.int x3), some (.int x4)] [] s Q := by
  refine wpc_sl (n := 2) (c' := 16) (pc' := 32) (ls' := [some (.ref 0), some (.int x1), some (.int x2), some (.int x3), some (.int (x4 + (1 : Int32)))]) (st' := []) (s' := s) rfl ?_
  exact h
theorem c23_in (a1 : Int32) (s : St) (Q : Int32 → St → Prop) (h : ((a1 < (0 : Int32)) → Q (0 : Int32) s) ∧ (¬ (a1 < (0 : Int32)) → ((a1 < (gI s 0 28)) → Q (1 : Int32) s) ∧ (¬ (a1 < (gI s 0 28)) → Q (0 : Int32) s))) : calI PP 23 16 [.ref 0, .int a1] s Q := by
  refine cal_of (me := cm23) (ls := [some (.ref 0), some (.int a1)]) rfl (Nat.le_of_ble_eq_true rfl) rfl ?_
  refine wpc_sl (n := 1) (c' := 16) (pc' := 1) (ls' := [some (.ref 0), some (.int a1)]) (st' := [.int a1]) (s' := s) rfl ?_
  refine wpc_if (a := 16) (b := 4) rfl (by decide) rfl rfl (wpc_br (p := a1 < (0 : Int32)) ⟨fun hc386 => ?_, fun hc386 => ?_⟩)
  · have h387 := h.1 hc386
    refine wpc_sl (n := 1) (c' := 16) (pc' := 17) (ls' := [some (.ref 0), some (.int a1)]) (st' := [.int (0 : Int32)]) (s' := s) rfl ?_
    exact wpc_ret rfl rfl (fun q => absurd q (by decide)) rfl ⟨(0 : Int32), rfl, h387⟩
  · have h388 := h.2 hc386
    refine wpc_sl (n := 3) (c' := 16) (pc' := 9) (ls' := [some (.ref 0), some (.int a1)]) (st' := [.int (gI s 0 28), .int a1]) (s' := s) rfl ?_
    refine wpc_icmp (a := 16) (b := 12) rfl (by decide) rfl rfl (wpc_br (p := a1 < (gI s 0 28)) ⟨fun hc389 => ?_, fun hc389 => ?_⟩)
    · have h390 := h388.1 hc389
      refine wpc_sl (n := 2) (c' := 16) (pc' := 17) (ls' := [some (.ref 0), some (.int a1)]) (st' := [.int (1 : Int32)]) (s' := s) rfl ?_
      exact wpc_ret rfl rfl (fun q => absurd q (by decide)) rfl ⟨(1 : Int32), rfl, h390⟩
    · have h391 := h388.2 hc389
      refine wpc_sl (n := 1) (c' := 16) (pc' := 17) (ls' := [some (.ref 0), some (.int a1)]) (st' := [.int (0 : Int32)]) (s' := s) rfl ?_
      exact wpc_ret rfl rfl (fun q => absurd q (by decide)) rfl ⟨(0 : Int32), rfl, h391⟩
theorem c46_in (a1 : Int32) (s : St) (Q : Int32 → St → Prop) (h : ((a1 = (0 : Int32)) → Q (1 : Int32) s) ∧ (¬ (a1 = (0 : Int32)) → ((a1 = (1 : Int32)) → Q (2 : Int32) s) ∧ (¬ (a1 = (1 : Int32)) → ((a1 = (2 : Int32)) → Q (4 : Int32) s) ∧ (¬ (a1 = (2 : Int32)) → Q (8 : Int32) s)))) : calI PP 46 16 [.ref 0, .int a1] s Q := by
  refine cal_of (me := cm46) (ls := [some (.ref 0), some (.int a1)]) rfl (Nat.le_of_ble_eq_true rfl) rfl ?_
  refine wpc_sl (n := 1) (c' := 16) (pc' := 1) (ls' := [some (.ref 0), some (.int a1)]) (st' := [.int a1]) (s' := s) rfl ?_
  refine wpc_if (a := 6) (b := 4) rfl (by decide) rfl rfl (wpc_br (p := a1 = (0 : Int32)) ⟨fun hc410 => ?_, fun hc410 => ?_⟩)
  · have h411 := h.1 hc410
    refine wpc_sl (n := 1) (c' := 16) (pc' := 5) (ls' := [some (.ref 0), some (.int a1)]) (st' := [.int (1 : Int32)]) (s' := s) rfl ?_
    exact wpc_ret rfl rfl (fun q => absurd q (by decide)) rfl ⟨(1 : Int32), rfl, h411⟩
  · have h412 := h.2 hc410
    refine wpc_sl (n := 2) (c' := 16) (pc' := 8) (ls' := [some (.ref 0), some (.int a1)]) (st' := [.int (1 : Int32), .int a1]) (s' := s) rfl ?_
    refine wpc_icmp (a := 13) (b := 11) rfl (by decide) rfl rfl (wpc_br (p := a1 = (1 : Int32)) ⟨fun hc413 => ?_, fun hc413 => ?_⟩)
    · have h414 := h412.1 hc413
      refine wpc_sl (n := 1) (c' := 16) (pc' := 12) (ls' := [some (.ref 0), some (.int a1)]) (st' := [.int (2 : Int32)]) (s' := s) rfl ?_
      exact wpc_ret rfl rfl (fun q => absurd q (by decide)) rfl ⟨(2 : Int32), rfl, h414⟩
    · have h415 := h412.2 hc413
      refine wpc_sl (n := 2) (c' := 16) (pc' := 15) (ls' := [some (.ref 0), some (.int a1)]) (st' := [.int (2 : Int32), .int a1]) (s' := s) rfl ?_
      refine wpc_icmp (a := 20) (b := 18) rfl (by decide) rfl rfl (wpc_br (p := a1 = (2 : Int32)) ⟨fun hc416 => ?_, fun hc416 => ?_⟩)
      · have h417 := h415.1 hc416
        refine wpc_sl (n := 1) (c' := 16) (pc' := 19) (ls' := [some (.ref 0), some (.int a1)]) (st' := [.int (4 : Int32)]) (s' := s) rfl ?_
        exact wpc_ret rfl rfl (fun q => absurd q (by decide)) rfl ⟨(4 : Int32), rfl, h417⟩
      · have h418 := h415.2 hc416
        refine wpc_sl (n := 1) (c' := 16) (pc' := 22) (ls' := [some (.ref 0), some (.int a1)]) (st' := [.int (8 : Int32)]) (s' := s) rfl ?_
        exact wpc_ret rfl rfl (fun q => absurd q (by decide)) rfl ⟨(8 : Int32), rfl, h418⟩
theorem c45_in (a1 : Int32) (a2 : Int32) (a3 : Int32) (s : St) (Q : Int32 → St → Prop) (h : calI PP 50 16 [.ref 0, .int a1, .int a2, .int a3] s (fun v393 s392 => inb 1024 v393 ∧ ((((gI s392 16 (ix v393)) - (1 : Int32)) < (0 : Int32)) → Q (0 : Int32) s392) ∧ (¬ (((gI s392 16 (ix v393)) - (1 : Int32)) < (0 : Int32)) → inb 64 ((gI s392 16 (ix v393)) - (1 : Int32)) ∧ (((gI s392 1 (ix ((gI s392 16 (ix v393)) - (1 : Int32)))) = (2 : Int32)) → calI PP 46 16 [.ref 0, .int a3] s392 (fun v404 s403 => ((a3 = (2 : Int32)) → inb 64 ((gI s392 16 (ix v393)) - (1 : Int32)) ∧ Q (v404 + ((gI s403 7 (ix ((gI s392 16 (ix v393)) - (1 : Int32)))) <<< ((8 : Int32) &&& 31))) s403) ∧ (¬ (a3 = (2 : Int32)) → Q v404 s403))) ∧ (¬ ((gI s392 1 (ix ((gI s392 16 (ix v393)) - (1 : Int32)))) = (2 : Int32)) → Q (0 : Int32) s392)))) : calI PP 45 16 [.ref 0, .int a1, .int a2, .int a3] s Q := by
  refine cal_of (me := cm45) (ls := [some (.ref 0), some (.int a1), some (.int a2), some (.int a3), none, none]) rfl (Nat.le_of_ble_eq_true rfl) rfl ?_
  refine wpc_sl (n := 6) (c' := 16) (pc' := 8) (ls' := [some (.ref 0), some (.int a1), some (.int a2), some (.int a3), none, none]) (st' := [.int a3, .int a2, .int a1, .ref 0, .ref 16]) (s' := s) rfl ?_
  refine wpc_callI (m' := 50) (me' := cm50) (as := [.int a1, .int a2, .int a3]) (r := [.ref 16]) rfl rfl rfl rfl rfl ⟨by decide, (by first | decide | exact Nat.le_of_ble_eq_true rfl), (by first | decide | exact Nat.le_of_ble_eq_true rfl), rfl⟩ (calI.mono h fun v393 s392 h394 => ?_)
  refine wpc_ldaI (a := 15) (N := 1024) (v := (gI s392 16 (ix v393))) rfl rfl (by decide) h394.1 rfl ?_
  have h395 := h394.2
  refine wpc_sl (n := 4) (c' := 16) (pc' := 18) (ls' := [some (.ref 0), some (.int a1), some (.int a2), some (.int a3), some (.int ((gI s392 16 (ix v393)) - (1 : Int32))), none]) (st' := [.int ((gI s392 16 (ix v393)) - (1 : Int32))]) (s' := s392) rfl ?_
  refine wpc_if (a := 23) (b := 21) rfl (by decide) rfl rfl (wpc_br (p := ((gI s392 16 (ix v393)) - (1 : Int32)) < (0 : Int32)) ⟨fun hc396 => ?_, fun hc396 => ?_⟩)
  · have h397 := h395.1 hc396
    refine wpc_sl (n := 1) (c' := 16) (pc' := 22) (ls' := [some (.ref 0), some (.int a1), some (.int a2), some (.int a3), some (.int ((gI s392 16 (ix v393)) - (1 : Int32))), none]) (st' := [.int (0 : Int32)]) (s' := s392) rfl ?_
    exact wpc_ret rfl rfl (fun q => absurd q (by decide)) rfl ⟨(0 : Int32), rfl, h397⟩
  · have h398 := h395.2 hc396
    refine wpc_sl (n := 3) (c' := 16) (pc' := 29) (ls' := [some (.ref 0), some (.int a1), some (.int a2), some (.int a3), some (.int ((gI s392 16 (ix v393)) - (1 : Int32))), none]) (st' := [.int ((gI s392 16 (ix v393)) - (1 : Int32)), .ref 1]) (s' := s392) rfl ?_
    refine wpc_ldaI (a := 0) (N := 64) (v := (gI s392 1 (ix ((gI s392 16 (ix v393)) - (1 : Int32))))) rfl rfl (by decide) h398.1 rfl ?_
    have h399 := h398.2
    refine wpc_sl (n := 1) (c' := 16) (pc' := 31) (ls' := [some (.ref 0), some (.int a1), some (.int a2), some (.int a3), some (.int ((gI s392 16 (ix v393)) - (1 : Int32))), none]) (st' := [.int (2 : Int32), .int (gI s392 1 (ix ((gI s392 16 (ix v393)) - (1 : Int32))))]) (s' := s392) rfl ?_
    refine wpc_icmp (a := 36) (b := 34) rfl (by decide) rfl rfl (wpc_br (p := (gI s392 1 (ix ((gI s392 16 (ix v393)) - (1 : Int32)))) = (2 : Int32)) ⟨fun hc400 => ?_, fun hc400 => ?_⟩)
    · have h401 := h399.1 hc400
      refine wpc_sl (n := 2) (c' := 16) (pc' := 38) (ls' := [some (.ref 0), some (.int a1), some (.int a2), some (.int a3), some (.int ((gI s392 16 (ix v393)) - (1 : Int32))), none]) (st' := [.int a3, .ref 0]) (s' := s392) rfl ?_
      refine wpc_callI (m' := 46) (me' := cm46) (as := [.int a3]) (r := []) rfl rfl rfl rfl rfl ⟨by decide, (by first | decide | exact Nat.le_of_ble_eq_true rfl), (by first | decide | exact Nat.le_of_ble_eq_true rfl), rfl⟩ (calI.mono h401 fun v404 s403 h405 => ?_)
      refine wpc_sl (n := 3) (c' := 16) (pc' := 45) (ls' := [some (.ref 0), some (.int a1), some (.int a2), some (.int a3), some (.int ((gI s392 16 (ix v393)) - (1 : Int32))), some (.int v404)]) (st' := [.int (2 : Int32), .int a3]) (s' := s403) rfl ?_
      refine wpc_icmp (a := 63) (b := 48) rfl (by decide) rfl rfl (wpc_br (p := a3 = (2 : Int32)) ⟨fun hc406 => ?_, fun hc406 => ?_⟩)
      · have h407 := h405.1 hc406
        refine wpc_sl (n := 4) (c' := 16) (pc' := 56) (ls' := [some (.ref 0), some (.int a1), some (.int a2), some (.int a3), some (.int ((gI s392 16 (ix v393)) - (1 : Int32))), some (.int v404)]) (st' := [.int ((gI s392 16 (ix v393)) - (1 : Int32)), .ref 7, .int v404]) (s' := s403) rfl ?_
        refine wpc_ldaI (a := 6) (N := 64) (v := (gI s403 7 (ix ((gI s392 16 (ix v393)) - (1 : Int32))))) rfl rfl (by decide) h407.1 rfl ?_
        have h409 := h407.2
        refine wpc_sl (n := 5) (c' := 16) (pc' := 65) (ls' := [some (.ref 0), some (.int a1), some (.int a2), some (.int a3), some (.int ((gI s392 16 (ix v393)) - (1 : Int32))), some (.int (v404 + ((gI s403 7 (ix ((gI s392 16 (ix v393)) - (1 : Int32)))) <<< ((8 : Int32) &&& 31))))]) (st' := [.int (v404 + ((gI s403 7 (ix ((gI s392 16 (ix v393)) - (1 : Int32)))) <<< ((8 : Int32) &&& 31)))]) (s' := s403) rfl ?_
        exact wpc_ret rfl rfl (fun q => absurd q (by decide)) rfl ⟨(v404 + ((gI s403 7 (ix ((gI s392 16 (ix v393)) - (1 : Int32)))) <<< ((8 : Int32) &&& 31))), rfl, h409⟩
      · have h408 := h405.2 hc406
        refine wpc_sl (n := 1) (c' := 16) (pc' := 65) (ls' := [some (.ref 0), some (.int a1), some (.int a2), some (.int a3), some (.int ((gI s392 16 (ix v393)) - (1 : Int32))), some (.int v404)]) (st' := [.int v404]) (s' := s403) rfl ?_
        exact wpc_ret rfl rfl (fun q => absurd q (by decide)) rfl ⟨v404, rfl, h408⟩
    · have h402 := h399.2 hc400
      refine wpc_sl (n := 1) (c' := 16) (pc' := 35) (ls' := [some (.ref 0), some (.int a1), some (.int a2), some (.int a3), some (.int ((gI s392 16 (ix v393)) - (1 : Int32))), none]) (st' := [.int (0 : Int32)]) (s' := s392) rfl ?_
      exact wpc_ret rfl rfl (fun q => absurd q (by decide)) rfl ⟨(0 : Int32), rfl, h402⟩
theorem c9_in (a1 : Int32) (a2 : Int32) (s : St) (Q : Int32 → St → Prop) (h : calI PP 22 16 [.ref 0, .int a1] s (fun v369 s368 => ((v369 = (0 : Int32)) → Q (-1 : Int32) s368) ∧ (¬ (v369 = (0 : Int32)) → calI PP 23 16 [.ref 0, .int a2] s368 (fun v375 s374 => ((v375 = (0 : Int32)) → Q (-1 : Int32) s374) ∧ (¬ (v375 = (0 : Int32)) → wpcI PP 9 cm9 16 25 [some (.ref 0), some (.int a1), some (.int a2), some (.int (0 : Int32)), some (.int (0 : Int32))] [] s374 Q))))) : calI PP 9 16 [.ref 0, .int a1, .int a2] s Q := by
  refine cal_of (me := cm9) (ls := [some (.ref 0), some (.int a1), some (.int a2), none, none]) rfl (Nat.le_of_ble_eq_true rfl) rfl ?_
  refine wpc_sl (n := 2) (c' := 16) (pc' := 2) (ls' := [some (.ref 0), some (.int a1), some (.int a2), none, none]) (st' := [.int a1, .ref 0]) (s' := s) rfl ?_
  refine wpc_callI (m' := 22) (me' := cm22) (as := [.int a1]) (r := []) rfl rfl rfl rfl rfl ⟨by decide, (by first | decide | exact Nat.le_of_ble_eq_true rfl), (by first | decide | exact Nat.le_of_ble_eq_true rfl), rfl⟩ (calI.mono h fun v369 s368 h370 => ?_)
  refine wpc_if (a := 10) (b := 8) rfl (by decide) rfl rfl (wpc_br (p := v369 = (0 : Int32)) ⟨fun hc371 => ?_, fun hc371 => ?_⟩)
  · have h372 := h370.1 hc371
    refine wpc_sl (n := 1) (c' := 16) (pc' := 9) (ls' := [some (.ref 0), some (.int a1), some (.int a2), none, none]) (st' := [.int (-1 : Int32)]) (s' := s368) rfl ?_
    exact wpc_ret rfl rfl (fun q => absurd q (by decide)) rfl ⟨(-1 : Int32), rfl, h372⟩
  · have h373 := h370.2 hc371
    refine wpc_sl (n := 2) (c' := 16) (pc' := 12) (ls' := [some (.ref 0), some (.int a1), some (.int a2), none, none]) (st' := [.int a2, .ref 0]) (s' := s368) rfl ?_
    refine wpc_callI (m' := 23) (me' := cm23) (as := [.int a2]) (r := []) rfl rfl rfl rfl rfl ⟨by decide, (by first | decide | exact Nat.le_of_ble_eq_true rfl), (by first | decide | exact Nat.le_of_ble_eq_true rfl), rfl⟩ (calI.mono h373 fun v375 s374 h376 => ?_)
    refine wpc_if (a := 20) (b := 18) rfl (by decide) rfl rfl (wpc_br (p := v375 = (0 : Int32)) ⟨fun hc377 => ?_, fun hc377 => ?_⟩)
    · have h378 := h376.1 hc377
      refine wpc_sl (n := 1) (c' := 16) (pc' := 19) (ls' := [some (.ref 0), some (.int a1), some (.int a2), none, none]) (st' := [.int (-1 : Int32)]) (s' := s374) rfl ?_
      exact wpc_ret rfl rfl (fun q => absurd q (by decide)) rfl ⟨(-1 : Int32), rfl, h378⟩
    · have h379 := h376.2 hc377
      refine wpc_sl (n := 4) (c' := 16) (pc' := 25) (ls' := [some (.ref 0), some (.int a1), some (.int a2), some (.int (0 : Int32)), some (.int (0 : Int32))]) (st' := []) (s' := s374) rfl ?_
      exact h379
theorem c9_25 (x1 : Int32) (x2 : Int32) (x3 : Int32) (x4 : Int32) (s : St) (Q : Int32 → St → Prop) (h : ((x4 < (4 : Int32)) → calI PP 45 16 [.ref 0, .int x1, .int x2, .int x4] s (fun v384 s383 => wpcI PP 9 cm9 16 25 [some (.ref 0), some (.int x1), some (.int x2), some (.int (x3 + v384)), some (.int (x4 + (1 : Int32)))] [] s383 Q)) ∧ (¬ (x4 < (4 : Int32)) → Q x3 s)) : wpcI PP 9 cm9 16 25 [some (.ref 0), some (.int x1), some (.int x2), some (.int x3), some (.int x4)] [] s Q := by
  refine wpc_sl (n := 2) (c' := 16) (pc' := 28) (ls' := [some (.ref 0), some (.int x1), some (.int x2), some (.int x3), some (.int x4)]) (st' := [.int (4 : Int32), .int x4]) (s' := s) rfl ?_
  refine wpc_icmp (a := 48) (b := 31) rfl (by decide) rfl rfl (wpc_br (p := x4 < (4 : Int32)) ⟨fun hc380 => ?_, fun hc380 => ?_⟩)
  · have h381 := h.1 hc380
    refine wpc_sl (n := 5) (c' := 16) (pc' := 37) (ls' := [some (.ref 0), some (.int x1), some (.int x2), some (.int x3), some (.int x4)]) (st' := [.int x4, .int x2, .int x1, .ref 0, .int x3]) (s' := s) rfl ?_
    refine wpc_callI (m' := 45) (me' := cm45) (as := [.int x1, .int x2, .int x4]) (r := [.int x3]) rfl rfl rfl rfl rfl ⟨by decide, (by first | decide | exact Nat.le_of_ble_eq_true rfl), (by first | decide | exact Nat.le_of_ble_eq_true rfl), rfl⟩ (calI.mono h381 fun v384 s383 h385 => ?_)
    refine wpc_sl (n := 4) (c' := 16) (pc' := 25) (ls' := [some (.ref 0), some (.int x1), some (.int x2), some (.int (x3 + v384)), some (.int (x4 + (1 : Int32)))]) (st' := []) (s' := s383) rfl ?_
    exact h385
  · have h382 := h.2 hc380
    refine wpc_sl (n := 1) (c' := 16) (pc' := 49) (ls' := [some (.ref 0), some (.int x1), some (.int x2), some (.int x3), some (.int x4)]) (st' := [.int x3]) (s' := s) rfl ?_
    exact wpc_ret rfl rfl (fun q => absurd q (by decide)) rfl ⟨x3, rfl, h382⟩
theorem l0_in (a0 : Int32) (a1 : Int32) (a2 : Int32) (a3 : Int32) (a4 : Int32) (a5 : Int32)  (Q : Int32 → Wd → Prop) (h : calV PP 0 0 [.ref 0, .int (8 : Int32), .int (8 : Int32), .int (8 : Int32)] s0 (fun s1 => ∀ m3, m3 = (if a1 < (0 : Int32) then (0 : Int32) else (if a2 < a1 then (0 : Int32) else (if a2 < (4 : Int32) then (1 : Int32) else (0 : Int32)))) → (∀ m6, m6 = (if a4 < (0 : Int32) then (0 : Int32) else (if a5 < a4 then (0 : Int32) else (if a5 < (4 : Int32) then (1 : Int32) else (0 : Int32)))) → (calI PP 4 16 [.ref 0, .int (0 : Int32), .int ((2 : Int32) + ((4 : Int32) * (a0 &&& (255 : Int32)))), .int a1, .int a2] s1 (fun v10 s9 => ∀ m12, m12 = (if m3 = (0 : Int32) then (-1 : Int32) else (0 : Int32)) → (((v10 = m12) → calI PP 4 16 [.ref 0, .int (1 : Int32), .int ((2 : Int32) + ((4 : Int32) * (a3 &&& (255 : Int32)))), .int a4, .int a5] s9 (fun v19 s18 => ∀ m21, m21 = (if m6 = (0 : Int32) then (-1 : Int32) else (if m3 = (0 : Int32) then (0 : Int32) else (1 : Int32))) → (((v19 = m21) → calI PP 8 16 [.ref 0, .int (0 : Int32), .int (1 : Int32)] s18 (fun v28 s27 => ∀ m30, m30 = (if m3 = (0 : Int32) then (0 : Int32) else (1 : Int32)) → (((v28 = m30) → calI PP 8 16 [.ref 0, .int (1 : Int32), .int (0 : Int32)] s27 (fun v37 s36 => ∀ m39, m39 = (if m6 = (0 : Int32) then (0 : Int32) else (1 : Int32)) → (((v37 = m39) → wplI PP QQ none 0 lm0 201 [none, some (.int a1), some (.int a2), none, some (.int a4), some (.int a5), some (.ref 1), some (.int (a0 &&& (255 : Int32))), some (.int (a3 &&& (255 : Int32))), some (.int m3), some (.int m6), none, none, some (.int (0 : Int32)), none, none, none] [] (W1 s36) Q) ∧ (¬ (v37 = m39) → Q (0 : Int32) (W1 s36))))) ∧ (¬ (v28 = m30) → Q (0 : Int32) (W1 s27))))) ∧ (¬ (v19 = m21) → Q (0 : Int32) (W1 s18))))) ∧ (¬ (v10 = m12) → Q (0 : Int32) (W1 s9)))))))) : lalI PP QQ none 0 [.int a0, .int a1, .int a2, .int a3, .int a4, .int a5] W0 Q := by
  refine lal_of (me := lm0) (ls := [some (.int a0), some (.int a1), some (.int a2), some (.int a3), some (.int a4), some (.int a5), none, none, none, none, none, none, none, none, none, none, none]) rfl (Nat.le_of_ble_eq_true rfl) rfl ?_
  refine wpl_new0 rfl rfl (by decide) (by decide) ?_
  refine wpl_sl (n := 4) (pc' := 10) (ls' := [some (.int a0), some (.int a1), some (.int a2), some (.int a3), some (.int a4), some (.int a5), none, none, none, none, none, none, none, none, none, none, none]) (st' := [.int (8 : Int32), .int (8 : Int32), .int (8 : Int32), .ref 1, .ref 1]) rfl ?_
  refine wpl_ctor0 (me' := cm0) (as := [.int (8 : Int32), .int (8 : Int32), .int (8 : Int32)]) (r := [.ref 1]) rfl rfl rfl rfl rfl ⟨by decide, by decide, rfl, by decide, by decide⟩ (calV.mono h fun s1 h2 => ?_)
  refine wpl_sl (n := 11) (pc' := 31) (ls' := [some (.int a0), some (.int a1), some (.int a2), some (.int a3), some (.int a4), some (.int a5), some (.ref 1), some (.int (a0 &&& (255 : Int32))), some (.int (a3 &&& (255 : Int32))), none, none, none, none, none, none, none, none]) (st' := [.int a1, .int (0 : Int32)]) rfl ?_
  have hm4 : ∀ m3, m3 = (if a1 < (0 : Int32) then (0 : Int32) else (if a2 < a1 then (0 : Int32) else (if a2 < (4 : Int32) then (1 : Int32) else (0 : Int32)))) → wplI PP QQ none 0 lm0 49 [some (.int a0), some (.int a1), some (.int a2), some (.int a3), some (.int a4), some (.int a5), some (.ref 1), some (.int (a0 &&& (255 : Int32))), some (.int (a3 &&& (255 : Int32))), none, none, none, none, none, none, none, none] [.int m3] (W1 s1) Q := by
    intro m3 em3
    have h5 := h2 m3 em3
    refine wpl_sl (n := 3) (pc' := 54) (ls' := [some (.int a0), some (.int a1), some (.int a2), some (.int a3), some (.int a4), some (.int a5), some (.ref 1), some (.int (a0 &&& (255 : Int32))), some (.int (a3 &&& (255 : Int32))), some (.int m3), none, none, none, none, none, none, none]) (st' := [.int a4, .int (0 : Int32)]) rfl ?_
    have hm7 : ∀ m6, m6 = (if a4 < (0 : Int32) then (0 : Int32) else (if a5 < a4 then (0 : Int32) else (if a5 < (4 : Int32) then (1 : Int32) else (0 : Int32)))) → wplI PP QQ none 0 lm0 75 [some (.int a0), some (.int a1), some (.int a2), some (.int a3), some (.int a4), some (.int a5), some (.ref 1), some (.int (a0 &&& (255 : Int32))), some (.int (a3 &&& (255 : Int32))), some (.int m3), none, none, none, none, none, none, none] [.int m6] (W1 s1) Q := by
      intro m6 em6
      have h8 := h5 m6 em6
      refine wpl_sl (n := 10) (pc' := 88) (ls' := [some (.int a0), some (.int a1), some (.int a2), some (.int a3), some (.int a4), some (.int a5), some (.ref 1), some (.int (a0 &&& (255 : Int32))), some (.int (a3 &&& (255 : Int32))), some (.int m3), some (.int m6), none, none, none, none, none, none]) (st' := [.int a2, .int a1, .int ((2 : Int32) + ((4 : Int32) * (a0 &&& (255 : Int32)))), .int (0 : Int32), .ref 1]) rfl ?_
      refine wpl_v1 (m' := 4) (me' := cm4) (as := [.int (0 : Int32), .int ((2 : Int32) + ((4 : Int32) * (a0 &&& (255 : Int32)))), .int a1, .int a2]) (r := []) rfl rfl rfl rfl rfl ⟨by decide, (by first | decide | exact Nat.le_of_ble_eq_true rfl), (by first | decide | exact Nat.le_of_ble_eq_true rfl), rfl⟩ (cal_I (calI.mono h8 fun v10 s9 h11 => ?_))
      refine wpl_sl (n := 3) (pc' := 97) (ls' := [some (.int a0), some (.int a1), some (.int a2), some (.int a3), some (.int a4), some (.int a5), some (.ref 1), some (.int (a0 &&& (255 : Int32))), some (.int (a3 &&& (255 : Int32))), some (.int m3), some (.int m6), some (.int v10), none, none, none, none, none]) (st' := [.int m3, .int v10]) rfl ?_
      have hm13 : ∀ m12, m12 = (if m3 = (0 : Int32) then (-1 : Int32) else (0 : Int32)) → wplI PP QQ none 0 lm0 105 [some (.int a0), some (.int a1), some (.int a2), some (.int a3), some (.int a4), some (.int a5), some (.ref 1), some (.int (a0 &&& (255 : Int32))), some (.int (a3 &&& (255 : Int32))), some (.int m3), some (.int m6), some (.int v10), none, none, none, none, none] [.int m12, .int v10] (W1 s9) Q := by
        intro m12 em12
        have h14 := h11 m12 em12
        refine wpl_icmp (a := 110) (b := 108) rfl (by decide) rfl rfl (wpl_br (p := v10 = m12) ⟨fun hc15 => ?_, fun hc15 => ?_⟩)
        · have h16 := h14.1 hc15
          refine wpl_sl (n := 9) (pc' := 123) (ls' := [some (.int a0), some (.int a1), some (.int a2), some (.int a3), some (.int a4), some (.int a5), some (.ref 1), some (.int (a0 &&& (255 : Int32))), some (.int (a3 &&& (255 : Int32))), some (.int m3), some (.int m6), some (.int v10), none, none, none, none, none]) (st' := [.int a5, .int a4, .int ((2 : Int32) + ((4 : Int32) * (a3 &&& (255 : Int32)))), .int (1 : Int32), .ref 1]) rfl ?_
          refine wpl_v1 (m' := 4) (me' := cm4) (as := [.int (1 : Int32), .int ((2 : Int32) + ((4 : Int32) * (a3 &&& (255 : Int32)))), .int a4, .int a5]) (r := []) rfl rfl rfl rfl rfl ⟨by decide, (by first | decide | exact Nat.le_of_ble_eq_true rfl), (by first | decide | exact Nat.le_of_ble_eq_true rfl), rfl⟩ (cal_I (calI.mono h16 fun v19 s18 h20 => ?_))
          refine wpl_sl (n := 3) (pc' := 132) (ls' := [some (.int a0), some (.int a1), some (.int a2), some (.int a3), some (.int a4), some (.int a5), some (.ref 1), some (.int (a0 &&& (255 : Int32))), some (.int (a3 &&& (255 : Int32))), some (.int m3), some (.int m6), some (.int v10), some (.int v19), none, none, none, none]) (st' := [.int m6, .int v19]) rfl ?_
          have hm22 : ∀ m21, m21 = (if m6 = (0 : Int32) then (-1 : Int32) else (if m3 = (0 : Int32) then (0 : Int32) else (1 : Int32))) → wplI PP QQ none 0 lm0 149 [some (.int a0), some (.int a1), some (.int a2), some (.int a3), some (.int a4), some (.int a5), some (.ref 1), some (.int (a0 &&& (255 : Int32))), some (.int (a3 &&& (255 : Int32))), some (.int m3), some (.int m6), some (.int v10), some (.int v19), none, none, none, none] [.int m21, .int v19] (W1 s18) Q := by
            intro m21 em21
            have h23 := h20 m21 em21
            refine wpl_icmp (a := 154) (b := 152) rfl (by decide) rfl rfl (wpl_br (p := v19 = m21) ⟨fun hc24 => ?_, fun hc24 => ?_⟩)
            · have h25 := h23.1 hc24
              refine wpl_sl (n := 3) (pc' := 158) (ls' := [some (.int a0), some (.int a1), some (.int a2), some (.int a3), some (.int a4), some (.int a5), some (.ref 1), some (.int (a0 &&& (255 : Int32))), some (.int (a3 &&& (255 : Int32))), some (.int m3), some (.int m6), some (.int v10), some (.int v19), none, none, none, none]) (st' := [.int (1 : Int32), .int (0 : Int32), .ref 1]) rfl ?_
              refine wpl_v1 (m' := 8) (me' := cm8) (as := [.int (0 : Int32), .int (1 : Int32)]) (r := []) rfl rfl rfl rfl rfl ⟨by decide, (by first | decide | exact Nat.le_of_ble_eq_true rfl), (by first | decide | exact Nat.le_of_ble_eq_true rfl), rfl⟩ (cal_I (calI.mono h25 fun v28 s27 h29 => ?_))
              refine wpl_sl (n := 1) (pc' := 163) (ls' := [some (.int a0), some (.int a1), some (.int a2), some (.int a3), some (.int a4), some (.int a5), some (.ref 1), some (.int (a0 &&& (255 : Int32))), some (.int (a3 &&& (255 : Int32))), some (.int m3), some (.int m6), some (.int v10), some (.int v19), none, none, none, none]) (st' := [.int m3, .int v28]) rfl ?_
              have hm31 : ∀ m30, m30 = (if m3 = (0 : Int32) then (0 : Int32) else (1 : Int32)) → wplI PP QQ none 0 lm0 171 [some (.int a0), some (.int a1), some (.int a2), some (.int a3), some (.int a4), some (.int a5), some (.ref 1), some (.int (a0 &&& (255 : Int32))), some (.int (a3 &&& (255 : Int32))), some (.int m3), some (.int m6), some (.int v10), some (.int v19), none, none, none, none] [.int m30, .int v28] (W1 s27) Q := by
                intro m30 em30
                have h32 := h29 m30 em30
                refine wpl_icmp (a := 176) (b := 174) rfl (by decide) rfl rfl (wpl_br (p := v28 = m30) ⟨fun hc33 => ?_, fun hc33 => ?_⟩)
                · have h34 := h32.1 hc33
                  refine wpl_sl (n := 3) (pc' := 180) (ls' := [some (.int a0), some (.int a1), some (.int a2), some (.int a3), some (.int a4), some (.int a5), some (.ref 1), some (.int (a0 &&& (255 : Int32))), some (.int (a3 &&& (255 : Int32))), some (.int m3), some (.int m6), some (.int v10), some (.int v19), none, none, none, none]) (st' := [.int (0 : Int32), .int (1 : Int32), .ref 1]) rfl ?_
                  refine wpl_v1 (m' := 8) (me' := cm8) (as := [.int (1 : Int32), .int (0 : Int32)]) (r := []) rfl rfl rfl rfl rfl ⟨by decide, (by first | decide | exact Nat.le_of_ble_eq_true rfl), (by first | decide | exact Nat.le_of_ble_eq_true rfl), rfl⟩ (cal_I (calI.mono h34 fun v37 s36 h38 => ?_))
                  refine wpl_sl (n := 1) (pc' := 185) (ls' := [some (.int a0), some (.int a1), some (.int a2), some (.int a3), some (.int a4), some (.int a5), some (.ref 1), some (.int (a0 &&& (255 : Int32))), some (.int (a3 &&& (255 : Int32))), some (.int m3), some (.int m6), some (.int v10), some (.int v19), none, none, none, none]) (st' := [.int m6, .int v37]) rfl ?_
                  have hm40 : ∀ m39, m39 = (if m6 = (0 : Int32) then (0 : Int32) else (1 : Int32)) → wplI PP QQ none 0 lm0 193 [some (.int a0), some (.int a1), some (.int a2), some (.int a3), some (.int a4), some (.int a5), some (.ref 1), some (.int (a0 &&& (255 : Int32))), some (.int (a3 &&& (255 : Int32))), some (.int m3), some (.int m6), some (.int v10), some (.int v19), none, none, none, none] [.int m39, .int v37] (W1 s36) Q := by
                    intro m39 em39
                    have h41 := h38 m39 em39
                    refine wpl_icmp (a := 198) (b := 196) rfl (by decide) rfl rfl (wpl_br (p := v37 = m39) ⟨fun hc42 => ?_, fun hc42 => ?_⟩)
                    · have h43 := h41.1 hc42
                      refine wpl_sl (n := 2) (pc' := 201) (ls' := [some (.int a0), some (.int a1), some (.int a2), some (.int a3), some (.int a4), some (.int a5), some (.ref 1), some (.int (a0 &&& (255 : Int32))), some (.int (a3 &&& (255 : Int32))), some (.int m3), some (.int m6), some (.int v10), some (.int v19), some (.int (0 : Int32)), none, none, none]) (st' := []) rfl ?_
                      exact wpl_lle (ls := [none, some (.int a1), some (.int a2), none, some (.int a4), some (.int a5), some (.ref 1), some (.int (a0 &&& (255 : Int32))), some (.int (a3 &&& (255 : Int32))), some (.int m3), some (.int m6), none, none, some (.int (0 : Int32)), none, none, none]) ⟨rfl, rfl, rfl, rfl, rfl, rfl, rfl, rfl, rfl, rfl, trivial⟩ h43
                    · have h44 := h41.2 hc42
                      refine wpl_sl (n := 1) (pc' := 197) (ls' := [some (.int a0), some (.int a1), some (.int a2), some (.int a3), some (.int a4), some (.int a5), some (.ref 1), some (.int (a0 &&& (255 : Int32))), some (.int (a3 &&& (255 : Int32))), some (.int m3), some (.int m6), some (.int v10), some (.int v19), none, none, none, none]) (st' := [.int (0 : Int32)]) rfl ?_
                      exact wpl_ret rfl rfl rfl ⟨(0 : Int32), rfl, h44⟩
                  refine wpl_if (a := 192) (b := 188) rfl (by decide) rfl rfl (wpl_br (p := m6 = (0 : Int32)) ⟨fun hc45 => ?_, fun hc45 => ?_⟩)
                  · refine wpl_sl (n := 1) (pc' := 193) (ls' := [some (.int a0), some (.int a1), some (.int a2), some (.int a3), some (.int a4), some (.int a5), some (.ref 1), some (.int (a0 &&& (255 : Int32))), some (.int (a3 &&& (255 : Int32))), some (.int m3), some (.int m6), some (.int v10), some (.int v19), none, none, none, none]) (st' := [.int (0 : Int32), .int v37]) rfl ?_
                    first | exact hm40 _ (by simp only [if_pos hc45]) | exact wpl_lle (by repeat (first | exact trivial | refine ⟨rfl, ?_⟩)) (hm40 _ (by simp only [if_pos hc45]))
                  · refine wpl_sl (n := 2) (pc' := 193) (ls' := [some (.int a0), some (.int a1), some (.int a2), some (.int a3), some (.int a4), some (.int a5), some (.ref 1), some (.int (a0 &&& (255 : Int32))), some (.int (a3 &&& (255 : Int32))), some (.int m3), some (.int m6), some (.int v10), some (.int v19), none, none, none, none]) (st' := [.int (1 : Int32), .int v37]) rfl ?_
                    first | exact hm40 _ (by simp only [if_neg hc45]) | exact wpl_lle (by repeat (first | exact trivial | refine ⟨rfl, ?_⟩)) (hm40 _ (by simp only [if_neg hc45]))
                · have h35 := h32.2 hc33
                  refine wpl_sl (n := 1) (pc' := 175) (ls' := [some (.int a0), some (.int a1), some (.int a2), some (.int a3), some (.int a4), some (.int a5), some (.ref 1), some (.int (a0 &&& (255 : Int32))), some (.int (a3 &&& (255 : Int32))), some (.int m3), some (.int m6), some (.int v10), some (.int v19), none, none, none, none]) (st' := [.int (0 : Int32)]) rfl ?_
                  exact wpl_ret rfl rfl rfl ⟨(0 : Int32), rfl, h35⟩
              refine wpl_if (a := 170) (b := 166) rfl (by decide) rfl rfl (wpl_br (p := m3 = (0 : Int32)) ⟨fun hc46 => ?_, fun hc46 => ?_⟩)
              · refine wpl_sl (n := 1) (pc' := 171) (ls' := [some (.int a0), some (.int a1), some (.int a2), some (.int a3), some (.int a4), some (.int a5), some (.ref 1), some (.int (a0 &&& (255 : Int32))), some (.int (a3 &&& (255 : Int32))), some (.int m3), some (.int m6), some (.int v10), some (.int v19), none, none, none, none]) (st' := [.int (0 : Int32), .int v28]) rfl ?_
                first | exact hm31 _ (by simp only [if_pos hc46]) | exact wpl_lle (by repeat (first | exact trivial | refine ⟨rfl, ?_⟩)) (hm31 _ (by simp only [if_pos hc46]))
              · refine wpl_sl (n := 2) (pc' := 171) (ls' := [some (.int a0), some (.int a1), some (.int a2), some (.int a3), some (.int a4), some (.int a5), some (.ref 1), some (.int (a0 &&& (255 : Int32))), some (.int (a3 &&& (255 : Int32))), some (.int m3), some (.int m6), some (.int v10), some (.int v19), none, none, none, none]) (st' := [.int (1 : Int32), .int v28]) rfl ?_
                first | exact hm31 _ (by simp only [if_neg hc46]) | exact wpl_lle (by repeat (first | exact trivial | refine ⟨rfl, ?_⟩)) (hm31 _ (by simp only [if_neg hc46]))
            · have h26 := h23.2 hc24
              refine wpl_sl (n := 1) (pc' := 153) (ls' := [some (.int a0), some (.int a1), some (.int a2), some (.int a3), some (.int a4), some (.int a5), some (.ref 1), some (.int (a0 &&& (255 : Int32))), some (.int (a3 &&& (255 : Int32))), some (.int m3), some (.int m6), some (.int v10), some (.int v19), none, none, none, none]) (st' := [.int (0 : Int32)]) rfl ?_
              exact wpl_ret rfl rfl rfl ⟨(0 : Int32), rfl, h26⟩
          refine wpl_if (a := 148) (b := 135) rfl (by decide) rfl rfl (wpl_br (p := m6 = (0 : Int32)) ⟨fun hc47 => ?_, fun hc47 => ?_⟩)
          · refine wpl_sl (n := 1) (pc' := 149) (ls' := [some (.int a0), some (.int a1), some (.int a2), some (.int a3), some (.int a4), some (.int a5), some (.ref 1), some (.int (a0 &&& (255 : Int32))), some (.int (a3 &&& (255 : Int32))), some (.int m3), some (.int m6), some (.int v10), some (.int v19), none, none, none, none]) (st' := [.int (-1 : Int32), .int v19]) rfl ?_
            first | exact hm22 _ (by simp only [if_pos hc47]) | exact wpl_lle (by repeat (first | exact trivial | refine ⟨rfl, ?_⟩)) (hm22 _ (by simp only [if_pos hc47]))
          · refine wpl_sl (n := 1) (pc' := 137) (ls' := [some (.int a0), some (.int a1), some (.int a2), some (.int a3), some (.int a4), some (.int a5), some (.ref 1), some (.int (a0 &&& (255 : Int32))), some (.int (a3 &&& (255 : Int32))), some (.int m3), some (.int m6), some (.int v10), some (.int v19), none, none, none, none]) (st' := [.int m3, .int v19]) rfl ?_
            refine wpl_if (a := 144) (b := 140) rfl (by decide) rfl rfl (wpl_br (p := m3 = (0 : Int32)) ⟨fun hc48 => ?_, fun hc48 => ?_⟩)
            · refine wpl_sl (n := 2) (pc' := 149) (ls' := [some (.int a0), some (.int a1), some (.int a2), some (.int a3), some (.int a4), some (.int a5), some (.ref 1), some (.int (a0 &&& (255 : Int32))), some (.int (a3 &&& (255 : Int32))), some (.int m3), some (.int m6), some (.int v10), some (.int v19), none, none, none, none]) (st' := [.int (0 : Int32), .int v19]) rfl ?_
              first | exact hm22 _ (by simp only [if_neg hc47, if_pos hc48]) | exact wpl_lle (by repeat (first | exact trivial | refine ⟨rfl, ?_⟩)) (hm22 _ (by simp only [if_neg hc47, if_pos hc48]))
            · refine wpl_sl (n := 2) (pc' := 149) (ls' := [some (.int a0), some (.int a1), some (.int a2), some (.int a3), some (.int a4), some (.int a5), some (.ref 1), some (.int (a0 &&& (255 : Int32))), some (.int (a3 &&& (255 : Int32))), some (.int m3), some (.int m6), some (.int v10), some (.int v19), none, none, none, none]) (st' := [.int (1 : Int32), .int v19]) rfl ?_
              first | exact hm22 _ (by simp only [if_neg hc47, if_neg hc48]) | exact wpl_lle (by repeat (first | exact trivial | refine ⟨rfl, ?_⟩)) (hm22 _ (by simp only [if_neg hc47, if_neg hc48]))
        · have h17 := h14.2 hc15
          refine wpl_sl (n := 1) (pc' := 109) (ls' := [some (.int a0), some (.int a1), some (.int a2), some (.int a3), some (.int a4), some (.int a5), some (.ref 1), some (.int (a0 &&& (255 : Int32))), some (.int (a3 &&& (255 : Int32))), some (.int m3), some (.int m6), some (.int v10), none, none, none, none, none]) (st' := [.int (0 : Int32)]) rfl ?_
          exact wpl_ret rfl rfl rfl ⟨(0 : Int32), rfl, h17⟩
      refine wpl_if (a := 104) (b := 100) rfl (by decide) rfl rfl (wpl_br (p := m3 = (0 : Int32)) ⟨fun hc49 => ?_, fun hc49 => ?_⟩)
      · refine wpl_sl (n := 1) (pc' := 105) (ls' := [some (.int a0), some (.int a1), some (.int a2), some (.int a3), some (.int a4), some (.int a5), some (.ref 1), some (.int (a0 &&& (255 : Int32))), some (.int (a3 &&& (255 : Int32))), some (.int m3), some (.int m6), some (.int v10), none, none, none, none, none]) (st' := [.int (-1 : Int32), .int v10]) rfl ?_
        first | exact hm13 _ (by simp only [if_pos hc49]) | exact wpl_lle (by repeat (first | exact trivial | refine ⟨rfl, ?_⟩)) (hm13 _ (by simp only [if_pos hc49]))
      · refine wpl_sl (n := 2) (pc' := 105) (ls' := [some (.int a0), some (.int a1), some (.int a2), some (.int a3), some (.int a4), some (.int a5), some (.ref 1), some (.int (a0 &&& (255 : Int32))), some (.int (a3 &&& (255 : Int32))), some (.int m3), some (.int m6), some (.int v10), none, none, none, none, none]) (st' := [.int (0 : Int32), .int v10]) rfl ?_
        first | exact hm13 _ (by simp only [if_neg hc49]) | exact wpl_lle (by repeat (first | exact trivial | refine ⟨rfl, ?_⟩)) (hm13 _ (by simp only [if_neg hc49]))
    refine wpl_icmp (a := 74) (b := 57) rfl (by decide) rfl rfl (wpl_br (p := a4 < (0 : Int32)) ⟨fun hc50 => ?_, fun hc50 => ?_⟩)
    · refine wpl_sl (n := 1) (pc' := 75) (ls' := [some (.int a0), some (.int a1), some (.int a2), some (.int a3), some (.int a4), some (.int a5), some (.ref 1), some (.int (a0 &&& (255 : Int32))), some (.int (a3 &&& (255 : Int32))), some (.int m3), none, none, none, none, none, none, none]) (st' := [.int (0 : Int32)]) rfl ?_
      first | exact hm7 _ (by simp only [if_pos hc50]) | exact wpl_lle (by repeat (first | exact trivial | refine ⟨rfl, ?_⟩)) (hm7 _ (by simp only [if_pos hc50]))
    · refine wpl_sl (n := 2) (pc' := 61) (ls' := [some (.int a0), some (.int a1), some (.int a2), some (.int a3), some (.int a4), some (.int a5), some (.ref 1), some (.int (a0 &&& (255 : Int32))), some (.int (a3 &&& (255 : Int32))), some (.int m3), none, none, none, none, none, none, none]) (st' := [.int a5, .int a4]) rfl ?_
      refine wpl_icmp (a := 74) (b := 64) rfl (by decide) rfl rfl (wpl_br (p := a5 < a4) ⟨fun hc51 => ?_, fun hc51 => ?_⟩)
      · refine wpl_sl (n := 1) (pc' := 75) (ls' := [some (.int a0), some (.int a1), some (.int a2), some (.int a3), some (.int a4), some (.int a5), some (.ref 1), some (.int (a0 &&& (255 : Int32))), some (.int (a3 &&& (255 : Int32))), some (.int m3), none, none, none, none, none, none, none]) (st' := [.int (0 : Int32)]) rfl ?_
        first | exact hm7 _ (by simp only [if_neg hc50, if_pos hc51]) | exact wpl_lle (by repeat (first | exact trivial | refine ⟨rfl, ?_⟩)) (hm7 _ (by simp only [if_neg hc50, if_pos hc51]))
      · refine wpl_sl (n := 2) (pc' := 67) (ls' := [some (.int a0), some (.int a1), some (.int a2), some (.int a3), some (.int a4), some (.int a5), some (.ref 1), some (.int (a0 &&& (255 : Int32))), some (.int (a3 &&& (255 : Int32))), some (.int m3), none, none, none, none, none, none, none]) (st' := [.int (4 : Int32), .int a5]) rfl ?_
        refine wpl_icmp (a := 74) (b := 70) rfl (by decide) rfl rfl (wpl_br (p := a5 < (4 : Int32)) ⟨fun hc52 => ?_, fun hc52 => ?_⟩)
        · refine wpl_sl (n := 2) (pc' := 75) (ls' := [some (.int a0), some (.int a1), some (.int a2), some (.int a3), some (.int a4), some (.int a5), some (.ref 1), some (.int (a0 &&& (255 : Int32))), some (.int (a3 &&& (255 : Int32))), some (.int m3), none, none, none, none, none, none, none]) (st' := [.int (1 : Int32)]) rfl ?_
          first | exact hm7 _ (by simp only [if_neg hc50, if_neg hc51, if_pos hc52]) | exact wpl_lle (by repeat (first | exact trivial | refine ⟨rfl, ?_⟩)) (hm7 _ (by simp only [if_neg hc50, if_neg hc51, if_pos hc52]))
        · refine wpl_sl (n := 1) (pc' := 75) (ls' := [some (.int a0), some (.int a1), some (.int a2), some (.int a3), some (.int a4), some (.int a5), some (.ref 1), some (.int (a0 &&& (255 : Int32))), some (.int (a3 &&& (255 : Int32))), some (.int m3), none, none, none, none, none, none, none]) (st' := [.int (0 : Int32)]) rfl ?_
          first | exact hm7 _ (by simp only [if_neg hc50, if_neg hc51, if_neg hc52]) | exact wpl_lle (by repeat (first | exact trivial | refine ⟨rfl, ?_⟩)) (hm7 _ (by simp only [if_neg hc50, if_neg hc51, if_neg hc52]))
  refine wpl_icmp (a := 48) (b := 34) rfl (by decide) rfl rfl (wpl_br (p := a1 < (0 : Int32)) ⟨fun hc53 => ?_, fun hc53 => ?_⟩)
  · refine wpl_sl (n := 1) (pc' := 49) (ls' := [some (.int a0), some (.int a1), some (.int a2), some (.int a3), some (.int a4), some (.int a5), some (.ref 1), some (.int (a0 &&& (255 : Int32))), some (.int (a3 &&& (255 : Int32))), none, none, none, none, none, none, none, none]) (st' := [.int (0 : Int32)]) rfl ?_
    first | exact hm4 _ (by simp only [if_pos hc53]) | exact wpl_lle (by repeat (first | exact trivial | refine ⟨rfl, ?_⟩)) (hm4 _ (by simp only [if_pos hc53]))
  · refine wpl_sl (n := 2) (pc' := 36) (ls' := [some (.int a0), some (.int a1), some (.int a2), some (.int a3), some (.int a4), some (.int a5), some (.ref 1), some (.int (a0 &&& (255 : Int32))), some (.int (a3 &&& (255 : Int32))), none, none, none, none, none, none, none, none]) (st' := [.int a2, .int a1]) rfl ?_
    refine wpl_icmp (a := 48) (b := 39) rfl (by decide) rfl rfl (wpl_br (p := a2 < a1) ⟨fun hc54 => ?_, fun hc54 => ?_⟩)
    · refine wpl_sl (n := 1) (pc' := 49) (ls' := [some (.int a0), some (.int a1), some (.int a2), some (.int a3), some (.int a4), some (.int a5), some (.ref 1), some (.int (a0 &&& (255 : Int32))), some (.int (a3 &&& (255 : Int32))), none, none, none, none, none, none, none, none]) (st' := [.int (0 : Int32)]) rfl ?_
      first | exact hm4 _ (by simp only [if_neg hc53, if_pos hc54]) | exact wpl_lle (by repeat (first | exact trivial | refine ⟨rfl, ?_⟩)) (hm4 _ (by simp only [if_neg hc53, if_pos hc54]))
    · refine wpl_sl (n := 2) (pc' := 41) (ls' := [some (.int a0), some (.int a1), some (.int a2), some (.int a3), some (.int a4), some (.int a5), some (.ref 1), some (.int (a0 &&& (255 : Int32))), some (.int (a3 &&& (255 : Int32))), none, none, none, none, none, none, none, none]) (st' := [.int (4 : Int32), .int a2]) rfl ?_
      refine wpl_icmp (a := 48) (b := 44) rfl (by decide) rfl rfl (wpl_br (p := a2 < (4 : Int32)) ⟨fun hc55 => ?_, fun hc55 => ?_⟩)
      · refine wpl_sl (n := 2) (pc' := 49) (ls' := [some (.int a0), some (.int a1), some (.int a2), some (.int a3), some (.int a4), some (.int a5), some (.ref 1), some (.int (a0 &&& (255 : Int32))), some (.int (a3 &&& (255 : Int32))), none, none, none, none, none, none, none, none]) (st' := [.int (1 : Int32)]) rfl ?_
        first | exact hm4 _ (by simp only [if_neg hc53, if_neg hc54, if_pos hc55]) | exact wpl_lle (by repeat (first | exact trivial | refine ⟨rfl, ?_⟩)) (hm4 _ (by simp only [if_neg hc53, if_neg hc54, if_pos hc55]))
      · refine wpl_sl (n := 1) (pc' := 49) (ls' := [some (.int a0), some (.int a1), some (.int a2), some (.int a3), some (.int a4), some (.int a5), some (.ref 1), some (.int (a0 &&& (255 : Int32))), some (.int (a3 &&& (255 : Int32))), none, none, none, none, none, none, none, none]) (st' := [.int (0 : Int32)]) rfl ?_
        first | exact hm4 _ (by simp only [if_neg hc53, if_neg hc54, if_neg hc55]) | exact wpl_lle (by repeat (first | exact trivial | refine ⟨rfl, ?_⟩)) (hm4 _ (by simp only [if_neg hc53, if_neg hc54, if_neg hc55]))
theorem l0_201 (x1 : Int32) (x2 : Int32) (x4 : Int32) (x5 : Int32) (x7 : Int32) (x8 : Int32) (x9 : Int32) (x10 : Int32) (x13 : Int32)  (Q : Int32 → Wd → Prop) (h : ((x13 < (8 : Int32)) → ∀ m59, m59 = (if x9 = (0 : Int32) then (0 : Int32) else (if x13 < ((2 : Int32) * x1) then (0 : Int32) else (if ((2 : Int32) * x2) < x13 then (0 : Int32) else (1 : Int32)))) → (∀ m62, m62 = (if x10 = (0 : Int32) then (0 : Int32) else (if x13 < ((2 : Int32) * x4) then (0 : Int32) else (if ((2 : Int32) * x5) < x13 then (0 : Int32) else (1 : Int32)))) → (∀ m65, m65 = (if m62 = (0 : Int32) then (if m59 = (0 : Int32) then (0 : Int32) else (if x7 = (0 : Int32) then (0 : Int32) else ((4 : Int32) + (x7 <<< ((8 : Int32) &&& 31))))) else (if x8 = (0 : Int32) then (0 : Int32) else ((4 : Int32) + (x8 <<< ((8 : Int32) &&& 31))))) → (calI PP 9 16 [.ref 0, .int (0 : Int32), .int x13] s (fun v69 s68 => ((v69 = m65) → calI PP 9 16 [.ref 0, .int (1 : Int32), .int x13] s68 (fun v75 s74 => ((v75 = m65) → wplI PP QQ none 0 lm0 201 [none, some (.int x1), some (.int x2), none, some (.int x4), some (.int x5), some (.ref 1), some (.int x7), some (.int x8), some (.int x9), some (.int x10), none, none, some (.int (x13 + (1 : Int32))), none, none, none] [] (W1 s74) Q) ∧ (¬ (v75 = m65) → Q (0 : Int32) (W1 s74)))) ∧ (¬ (v69 = m65) → Q (0 : Int32) (W1 s68))))))) ∧ (¬ (x13 < (8 : Int32)) → Q (1 : Int32) (W1 s))) : wplI PP QQ none 0 lm0 201 [none, some (.int x1), some (.int x2), none, some (.int x4), some (.int x5), some (.ref 1), some (.int x7), some (.int x8), some (.int x9), some (.int x10), none, none, some (.int x13), none, none, none] [] (W1 s) Q := by
  refine wpl_sl (n := 2) (pc' := 205) (ls' := [none, some (.int x1), some (.int x2), none, some (.int x4), some (.int x5), some (.ref 1), some (.int x7), some (.int x8), some (.int x9), some (.int x10), none, none, some (.int x13), none, none, none]) (st' := [.int (8 : Int32), .int x13]) rfl ?_
  refine wpl_icmp (a := 354) (b := 208) rfl (by decide) rfl rfl (wpl_br (p := x13 < (8 : Int32)) ⟨fun hc56 => ?_, fun hc56 => ?_⟩)
  · have h57 := h.1 hc56
    refine wpl_sl (n := 1) (pc' := 210) (ls' := [none, some (.int x1), some (.int x2), none, some (.int x4), some (.int x5), some (.ref 1), some (.int x7), some (.int x8), some (.int x9), some (.int x10), none, none, some (.int x13), none, none, none]) (st' := [.int x9]) rfl ?_
    have hm60 : ∀ m59, m59 = (if x9 = (0 : Int32) then (0 : Int32) else (if x13 < ((2 : Int32) * x1) then (0 : Int32) else (if ((2 : Int32) * x2) < x13 then (0 : Int32) else (1 : Int32)))) → wplI PP QQ none 0 lm0 234 [none, some (.int x1), some (.int x2), none, some (.int x4), some (.int x5), some (.ref 1), some (.int x7), some (.int x8), some (.int x9), some (.int x10), none, none, some (.int x13), none, none, none] [.int m59] (W1 s) Q := by
      intro m59 em59
      have h61 := h57 m59 em59
      refine wpl_sl (n := 2) (pc' := 238) (ls' := [none, some (.int x1), some (.int x2), none, some (.int x4), some (.int x5), some (.ref 1), some (.int x7), some (.int x8), some (.int x9), some (.int x10), none, none, some (.int x13), some (.int m59), none, none]) (st' := [.int x10]) rfl ?_
      have hm63 : ∀ m62, m62 = (if x10 = (0 : Int32) then (0 : Int32) else (if x13 < ((2 : Int32) * x4) then (0 : Int32) else (if ((2 : Int32) * x5) < x13 then (0 : Int32) else (1 : Int32)))) → wplI PP QQ none 0 lm0 264 [none, some (.int x1), some (.int x2), none, some (.int x4), some (.int x5), some (.ref 1), some (.int x7), some (.int x8), some (.int x9), some (.int x10), none, none, some (.int x13), some (.int m59), none, none] [.int m62] (W1 s) Q := by
        intro m62 em62
        have h64 := h61 m62 em62
        refine wpl_sl (n := 4) (pc' := 271) (ls' := [none, some (.int x1), some (.int x2), none, some (.int x4), some (.int x5), some (.ref 1), some (.int x7), some (.int x8), some (.int x9), some (.int x10), none, none, some (.int x13), some (.int m59), some (.int m62), some (.int (0 : Int32))]) (st' := [.int m62]) rfl ?_
        have hm66 : ∀ m65, m65 = (if m62 = (0 : Int32) then (if m59 = (0 : Int32) then (0 : Int32) else (if x7 = (0 : Int32) then (0 : Int32) else ((4 : Int32) + (x7 <<< ((8 : Int32) &&& 31))))) else (if x8 = (0 : Int32) then (0 : Int32) else ((4 : Int32) + (x8 <<< ((8 : Int32) &&& 31))))) → wplI PP QQ none 0 lm0 318 [none, some (.int x1), some (.int x2), none, some (.int x4), some (.int x5), some (.ref 1), some (.int x7), some (.int x8), some (.int x9), some (.int x10), none, none, some (.int x13), some (.int m59), some (.int m62), some (.int m65)] [] (W1 s) Q := by
          intro m65 em65
          have h67 := h64 m65 em65
          refine wpl_sl (n := 3) (pc' := 323) (ls' := [none, some (.int x1), some (.int x2), none, some (.int x4), some (.int x5), some (.ref 1), some (.int x7), some (.int x8), some (.int x9), some (.int x10), none, none, some (.int x13), some (.int m59), some (.int m62), some (.int m65)]) (st' := [.int x13, .int (0 : Int32), .ref 1]) rfl ?_
          refine wpl_v1 (m' := 9) (me' := cm9) (as := [.int (0 : Int32), .int x13]) (r := []) rfl rfl rfl rfl rfl ⟨by decide, (by first | decide | exact Nat.le_of_ble_eq_true rfl), (by first | decide | exact Nat.le_of_ble_eq_true rfl), rfl⟩ (cal_I (calI.mono h67 fun v69 s68 h70 => ?_))
          refine wpl_sl (n := 1) (pc' := 328) (ls' := [none, some (.int x1), some (.int x2), none, some (.int x4), some (.int x5), some (.ref 1), some (.int x7), some (.int x8), some (.int x9), some (.int x10), none, none, some (.int x13), some (.int m59), some (.int m62), some (.int m65)]) (st' := [.int m65, .int v69]) rfl ?_
          refine wpl_icmp (a := 333) (b := 331) rfl (by decide) rfl rfl (wpl_br (p := v69 = m65) ⟨fun hc71 => ?_, fun hc71 => ?_⟩)
          · have h72 := h70.1 hc71
            refine wpl_sl (n := 3) (pc' := 338) (ls' := [none, some (.int x1), some (.int x2), none, some (.int x4), some (.int x5), some (.ref 1), some (.int x7), some (.int x8), some (.int x9), some (.int x10), none, none, some (.int x13), some (.int m59), some (.int m62), some (.int m65)]) (st' := [.int x13, .int (1 : Int32), .ref 1]) rfl ?_
            refine wpl_v1 (m' := 9) (me' := cm9) (as := [.int (1 : Int32), .int x13]) (r := []) rfl rfl rfl rfl rfl ⟨by decide, (by first | decide | exact Nat.le_of_ble_eq_true rfl), (by first | decide | exact Nat.le_of_ble_eq_true rfl), rfl⟩ (cal_I (calI.mono h72 fun v75 s74 h76 => ?_))
            refine wpl_sl (n := 1) (pc' := 343) (ls' := [none, some (.int x1), some (.int x2), none, some (.int x4), some (.int x5), some (.ref 1), some (.int x7), some (.int x8), some (.int x9), some (.int x10), none, none, some (.int x13), some (.int m59), some (.int m62), some (.int m65)]) (st' := [.int m65, .int v75]) rfl ?_
            refine wpl_icmp (a := 348) (b := 346) rfl (by decide) rfl rfl (wpl_br (p := v75 = m65) ⟨fun hc77 => ?_, fun hc77 => ?_⟩)
            · have h78 := h76.1 hc77
              refine wpl_sl (n := 2) (pc' := 201) (ls' := [none, some (.int x1), some (.int x2), none, some (.int x4), some (.int x5), some (.ref 1), some (.int x7), some (.int x8), some (.int x9), some (.int x10), none, none, some (.int (x13 + (1 : Int32))), some (.int m59), some (.int m62), some (.int m65)]) (st' := []) rfl ?_
              exact wpl_lle (ls := [none, some (.int x1), some (.int x2), none, some (.int x4), some (.int x5), some (.ref 1), some (.int x7), some (.int x8), some (.int x9), some (.int x10), none, none, some (.int (x13 + (1 : Int32))), none, none, none]) ⟨rfl, rfl, rfl, rfl, rfl, rfl, rfl, rfl, rfl, rfl, trivial⟩ h78
            · have h79 := h76.2 hc77
              refine wpl_sl (n := 1) (pc' := 347) (ls' := [none, some (.int x1), some (.int x2), none, some (.int x4), some (.int x5), some (.ref 1), some (.int x7), some (.int x8), some (.int x9), some (.int x10), none, none, some (.int x13), some (.int m59), some (.int m62), some (.int m65)]) (st' := [.int (0 : Int32)]) rfl ?_
              exact wpl_ret rfl rfl rfl ⟨(0 : Int32), rfl, h79⟩
          · have h73 := h70.2 hc71
            refine wpl_sl (n := 1) (pc' := 332) (ls' := [none, some (.int x1), some (.int x2), none, some (.int x4), some (.int x5), some (.ref 1), some (.int x7), some (.int x8), some (.int x9), some (.int x10), none, none, some (.int x13), some (.int m59), some (.int m62), some (.int m65)]) (st' := [.int (0 : Int32)]) rfl ?_
            exact wpl_ret rfl rfl rfl ⟨(0 : Int32), rfl, h73⟩
        refine wpl_if (a := 295) (b := 274) rfl (by decide) rfl rfl (wpl_br (p := m62 = (0 : Int32)) ⟨fun hc80 => ?_, fun hc80 => ?_⟩)
        · refine wpl_sl (n := 1) (pc' := 297) (ls' := [none, some (.int x1), some (.int x2), none, some (.int x4), some (.int x5), some (.ref 1), some (.int x7), some (.int x8), some (.int x9), some (.int x10), none, none, some (.int x13), some (.int m59), some (.int m62), some (.int (0 : Int32))]) (st' := [.int m59]) rfl ?_
          refine wpl_if (a := 318) (b := 300) rfl (by decide) rfl rfl (wpl_br (p := m59 = (0 : Int32)) ⟨fun hc81 => ?_, fun hc81 => ?_⟩)
          · first | exact hm66 _ (by simp only [if_pos hc80, if_pos hc81]) | exact wpl_lle (by repeat (first | exact trivial | refine ⟨rfl, ?_⟩)) (hm66 _ (by simp only [if_pos hc80, if_pos hc81]))
          · refine wpl_sl (n := 1) (pc' := 302) (ls' := [none, some (.int x1), some (.int x2), none, some (.int x4), some (.int x5), some (.ref 1), some (.int x7), some (.int x8), some (.int x9), some (.int x10), none, none, some (.int x13), some (.int m59), some (.int m62), some (.int (0 : Int32))]) (st' := [.int x7]) rfl ?_
            refine wpl_if (a := 309) (b := 305) rfl (by decide) rfl rfl (wpl_br (p := x7 = (0 : Int32)) ⟨fun hc82 => ?_, fun hc82 => ?_⟩)
            · refine wpl_sl (n := 3) (pc' := 318) (ls' := [none, some (.int x1), some (.int x2), none, some (.int x4), some (.int x5), some (.ref 1), some (.int x7), some (.int x8), some (.int x9), some (.int x10), none, none, some (.int x13), some (.int m59), some (.int m62), some (.int (0 : Int32))]) (st' := []) rfl ?_
              first | exact hm66 _ (by simp only [if_pos hc80, if_neg hc81, if_pos hc82]) | exact wpl_lle (by repeat (first | exact trivial | refine ⟨rfl, ?_⟩)) (hm66 _ (by simp only [if_pos hc80, if_neg hc81, if_pos hc82]))
            · refine wpl_sl (n := 6) (pc' := 318) (ls' := [none, some (.int x1), some (.int x2), none, some (.int x4), some (.int x5), some (.ref 1), some (.int x7), some (.int x8), some (.int x9), some (.int x10), none, none, some (.int x13), some (.int m59), some (.int m62), some (.int ((4 : Int32) + (x7 <<< ((8 : Int32) &&& 31))))]) (st' := []) rfl ?_
              first | exact hm66 _ (by simp only [if_pos hc80, if_neg hc81, if_neg hc82]) | exact wpl_lle (by repeat (first | exact trivial | refine ⟨rfl, ?_⟩)) (hm66 _ (by simp only [if_pos hc80, if_neg hc81, if_neg hc82]))
        · refine wpl_sl (n := 1) (pc' := 276) (ls' := [none, some (.int x1), some (.int x2), none, some (.int x4), some (.int x5), some (.ref 1), some (.int x7), some (.int x8), some (.int x9), some (.int x10), none, none, some (.int x13), some (.int m59), some (.int m62), some (.int (0 : Int32))]) (st' := [.int x8]) rfl ?_
          refine wpl_if (a := 283) (b := 279) rfl (by decide) rfl rfl (wpl_br (p := x8 = (0 : Int32)) ⟨fun hc83 => ?_, fun hc83 => ?_⟩)
          · refine wpl_sl (n := 4) (pc' := 318) (ls' := [none, some (.int x1), some (.int x2), none, some (.int x4), some (.int x5), some (.ref 1), some (.int x7), some (.int x8), some (.int x9), some (.int x10), none, none, some (.int x13), some (.int m59), some (.int m62), some (.int (0 : Int32))]) (st' := []) rfl ?_
            first | exact hm66 _ (by simp only [if_neg hc80, if_pos hc83]) | exact wpl_lle (by repeat (first | exact trivial | refine ⟨rfl, ?_⟩)) (hm66 _ (by simp only [if_neg hc80, if_pos hc83]))
          · refine wpl_sl (n := 7) (pc' := 318) (ls' := [none, some (.int x1), some (.int x2), none, some (.int x4), some (.int x5), some (.ref 1), some (.int x7), some (.int x8), some (.int x9), some (.int x10), none, none, some (.int x13), some (.int m59), some (.int m62), some (.int ((4 : Int32) + (x8 <<< ((8 : Int32) &&& 31))))]) (st' := []) rfl ?_
            first | exact hm66 _ (by simp only [if_neg hc80, if_neg hc83]) | exact wpl_lle (by repeat (first | exact trivial | refine ⟨rfl, ?_⟩)) (hm66 _ (by simp only [if_neg hc80, if_neg hc83]))
      refine wpl_if (a := 263) (b := 241) rfl (by decide) rfl rfl (wpl_br (p := x10 = (0 : Int32)) ⟨fun hc84 => ?_, fun hc84 => ?_⟩)
      · refine wpl_sl (n := 1) (pc' := 264) (ls' := [none, some (.int x1), some (.int x2), none, some (.int x4), some (.int x5), some (.ref 1), some (.int x7), some (.int x8), some (.int x9), some (.int x10), none, none, some (.int x13), some (.int m59), none, none]) (st' := [.int (0 : Int32)]) rfl ?_
        first | exact hm63 _ (by simp only [if_pos hc84]) | exact wpl_lle (by repeat (first | exact trivial | refine ⟨rfl, ?_⟩)) (hm63 _ (by simp only [if_pos hc84]))
      · refine wpl_sl (n := 4) (pc' := 247) (ls' := [none, some (.int x1), some (.int x2), none, some (.int x4), some (.int x5), some (.ref 1), some (.int x7), some (.int x8), some (.int x9), some (.int x10), none, none, some (.int x13), some (.int m59), none, none]) (st' := [.int x13, .int ((2 : Int32) * x4)]) rfl ?_
        refine wpl_icmp (a := 263) (b := 250) rfl (by decide) rfl rfl (wpl_br (p := x13 < ((2 : Int32) * x4)) ⟨fun hc85 => ?_, fun hc85 => ?_⟩)
        · refine wpl_sl (n := 1) (pc' := 264) (ls' := [none, some (.int x1), some (.int x2), none, some (.int x4), some (.int x5), some (.ref 1), some (.int x7), some (.int x8), some (.int x9), some (.int x10), none, none, some (.int x13), some (.int m59), none, none]) (st' := [.int (0 : Int32)]) rfl ?_
          first | exact hm63 _ (by simp only [if_neg hc84, if_pos hc85]) | exact wpl_lle (by repeat (first | exact trivial | refine ⟨rfl, ?_⟩)) (hm63 _ (by simp only [if_neg hc84, if_pos hc85]))
        · refine wpl_sl (n := 4) (pc' := 256) (ls' := [none, some (.int x1), some (.int x2), none, some (.int x4), some (.int x5), some (.ref 1), some (.int x7), some (.int x8), some (.int x9), some (.int x10), none, none, some (.int x13), some (.int m59), none, none]) (st' := [.int ((2 : Int32) * x5), .int x13]) rfl ?_
          refine wpl_icmp (a := 263) (b := 259) rfl (by decide) rfl rfl (wpl_br (p := ((2 : Int32) * x5) < x13) ⟨fun hc86 => ?_, fun hc86 => ?_⟩)
          · refine wpl_sl (n := 1) (pc' := 264) (ls' := [none, some (.int x1), some (.int x2), none, some (.int x4), some (.int x5), some (.ref 1), some (.int x7), some (.int x8), some (.int x9), some (.int x10), none, none, some (.int x13), some (.int m59), none, none]) (st' := [.int (0 : Int32)]) rfl ?_
            first | exact hm63 _ (by simp only [if_neg hc84, if_neg hc85, if_pos hc86]) | exact wpl_lle (by repeat (first | exact trivial | refine ⟨rfl, ?_⟩)) (hm63 _ (by simp only [if_neg hc84, if_neg hc85, if_pos hc86]))
          · refine wpl_sl (n := 2) (pc' := 264) (ls' := [none, some (.int x1), some (.int x2), none, some (.int x4), some (.int x5), some (.ref 1), some (.int x7), some (.int x8), some (.int x9), some (.int x10), none, none, some (.int x13), some (.int m59), none, none]) (st' := [.int (1 : Int32)]) rfl ?_
            first | exact hm63 _ (by simp only [if_neg hc84, if_neg hc85, if_neg hc86]) | exact wpl_lle (by repeat (first | exact trivial | refine ⟨rfl, ?_⟩)) (hm63 _ (by simp only [if_neg hc84, if_neg hc85, if_neg hc86]))
    refine wpl_if (a := 233) (b := 213) rfl (by decide) rfl rfl (wpl_br (p := x9 = (0 : Int32)) ⟨fun hc87 => ?_, fun hc87 => ?_⟩)
    · refine wpl_sl (n := 1) (pc' := 234) (ls' := [none, some (.int x1), some (.int x2), none, some (.int x4), some (.int x5), some (.ref 1), some (.int x7), some (.int x8), some (.int x9), some (.int x10), none, none, some (.int x13), none, none, none]) (st' := [.int (0 : Int32)]) rfl ?_
      first | exact hm60 _ (by simp only [if_pos hc87]) | exact wpl_lle (by repeat (first | exact trivial | refine ⟨rfl, ?_⟩)) (hm60 _ (by simp only [if_pos hc87]))
    · refine wpl_sl (n := 4) (pc' := 218) (ls' := [none, some (.int x1), some (.int x2), none, some (.int x4), some (.int x5), some (.ref 1), some (.int x7), some (.int x8), some (.int x9), some (.int x10), none, none, some (.int x13), none, none, none]) (st' := [.int x13, .int ((2 : Int32) * x1)]) rfl ?_
      refine wpl_icmp (a := 233) (b := 221) rfl (by decide) rfl rfl (wpl_br (p := x13 < ((2 : Int32) * x1)) ⟨fun hc88 => ?_, fun hc88 => ?_⟩)
      · refine wpl_sl (n := 1) (pc' := 234) (ls' := [none, some (.int x1), some (.int x2), none, some (.int x4), some (.int x5), some (.ref 1), some (.int x7), some (.int x8), some (.int x9), some (.int x10), none, none, some (.int x13), none, none, none]) (st' := [.int (0 : Int32)]) rfl ?_
        first | exact hm60 _ (by simp only [if_neg hc87, if_pos hc88]) | exact wpl_lle (by repeat (first | exact trivial | refine ⟨rfl, ?_⟩)) (hm60 _ (by simp only [if_neg hc87, if_pos hc88]))
      · refine wpl_sl (n := 4) (pc' := 226) (ls' := [none, some (.int x1), some (.int x2), none, some (.int x4), some (.int x5), some (.ref 1), some (.int x7), some (.int x8), some (.int x9), some (.int x10), none, none, some (.int x13), none, none, none]) (st' := [.int ((2 : Int32) * x2), .int x13]) rfl ?_
        refine wpl_icmp (a := 233) (b := 229) rfl (by decide) rfl rfl (wpl_br (p := ((2 : Int32) * x2) < x13) ⟨fun hc89 => ?_, fun hc89 => ?_⟩)
        · refine wpl_sl (n := 1) (pc' := 234) (ls' := [none, some (.int x1), some (.int x2), none, some (.int x4), some (.int x5), some (.ref 1), some (.int x7), some (.int x8), some (.int x9), some (.int x10), none, none, some (.int x13), none, none, none]) (st' := [.int (0 : Int32)]) rfl ?_
          first | exact hm60 _ (by simp only [if_neg hc87, if_neg hc88, if_pos hc89]) | exact wpl_lle (by repeat (first | exact trivial | refine ⟨rfl, ?_⟩)) (hm60 _ (by simp only [if_neg hc87, if_neg hc88, if_pos hc89]))
        · refine wpl_sl (n := 2) (pc' := 234) (ls' := [none, some (.int x1), some (.int x2), none, some (.int x4), some (.int x5), some (.ref 1), some (.int x7), some (.int x8), some (.int x9), some (.int x10), none, none, some (.int x13), none, none, none]) (st' := [.int (1 : Int32)]) rfl ?_
          first | exact hm60 _ (by simp only [if_neg hc87, if_neg hc88, if_neg hc89]) | exact wpl_lle (by repeat (first | exact trivial | refine ⟨rfl, ?_⟩)) (hm60 _ (by simp only [if_neg hc87, if_neg hc88, if_neg hc89]))
  · have h58 := h.2 hc56
    refine wpl_sl (n := 1) (pc' := 355) (ls' := [none, some (.int x1), some (.int x2), none, some (.int x4), some (.int x5), some (.ref 1), some (.int x7), some (.int x8), some (.int x9), some (.int x10), none, none, some (.int x13), none, none, none]) (st' := [.int (1 : Int32)]) rfl ?_
    exact wpl_ret rfl rfl rfl ⟨(1 : Int32), rfl, h58⟩
theorem own_clamp (x lo hi : Int32) (s : St) (Q : Int32 → St → Prop) (h : Q (if x < lo then lo else if hi < x then hi else x) s) : calI PP 51 16 [.ref 0, .int x, .int lo, .int hi] s Q := by
  apply c51_in
  refine ⟨fun a => ?_, fun a => ⟨fun b => ?_, fun b => ?_⟩⟩
  · rw [if_pos a] at h; exact h
  · rw [if_neg a, if_pos b] at h; exact h
  · rw [if_neg a, if_neg b] at h; exact h
theorem own_cl_rng {x lo hi m : Int32} (h : lo.toInt ≤ hi.toInt) (e : m = if x < lo then lo else if hi < x then hi else x) : lo.toInt ≤ m.toInt ∧ m.toInt ≤ hi.toInt := by
  subst e
  split
  · omega
  · split
    · omega
    · simp only [i32_lt] at *; omega
theorem own_ix {r x : Int32} (hr : 0 ≤ r.toInt ∧ r.toInt < 4) (hx : 0 ≤ x.toInt ∧ x.toInt < 64) : (r * 64 + x).toInt = r.toInt * 64 + x.toInt ∧ inb 256 (r * 64 + x) ∧ ix (r * 64 + x) = 64 * ix r + ix x := by
  have e1 : (r * 64).toInt = r.toInt * 64 := by rw [i32_mul] <;> simp <;> omega
  have e2 : (r * 64 + x).toInt = r.toInt * 64 + x.toInt := by rw [i32_add, e1] <;> rw [e1] <;> omega
  have a := ix_int hr.1
  have b := ix_int hx.1
  have c := ix_int (i := r * 64 + x) (by omega)
  exact ⟨e2, ⟨by omega, by show _ < (256 : Int); omega⟩, by omega⟩
theorem own_ix4 {w i : Int32} (hw : 0 ≤ w.toInt ∧ w.toInt < 256) (hi : 0 ≤ i.toInt ∧ i.toInt < 4) : (w * 4 + i).toInt = w.toInt * 4 + i.toInt := by
  have e1 : (w * 4).toInt = w.toInt * 4 := by rw [i32_mul] <;> simp <;> omega
  rw [i32_add, e1] <;> rw [e1] <;> omega
theorem own_two (x : Int32) (h : -2147483000 ≤ x.toInt ∧ x.toInt < 2147483000) : (x + 2).toInt = x.toInt + 2 := by rw [i32_add] <;> simp <;> omega
/-- resetReplica -/
theorem own_39 (s : St) (r N : Int32) (hr : 0 ≤ r.toInt ∧ r.toInt < 4) (hN : 8 ≤ N.toInt ∧ N.toInt ≤ 64) (h28 : gI s 0 28 = N) (Q : St → Prop)
    (h : ∀ t, (∀ c j, c ≠ 10 → c ≠ 11 → c ≠ 15 → gI t c j = gI s c j) → (∀ j, gI t 10 j = if j = ix r then 0 else gI s 10 j) → (∀ j, j ≠ ix r → gI t 11 j = gI s 11 j) → (gI t 11 (ix r)).toInt = (N.toInt + 1) / 2 → (∀ j, (j < 64 * ix r ∨ 64 * ix r + 64 ≤ j) → gI t 15 j = gI s 15 j) → (∀ i : Nat, 2 * (i : Int) < N.toInt → (gI t 15 (64 * ix r + i)).toInt = 2 * i) → Q t) : calV PP 39 16 [.ref 0, .int r] s Q := by
  have rb : inb 4 r := hr
  apply c39_in
  refine ⟨rb, ?_⟩
  have key : ∀ (n : Nat) (x y : Int32) (u : St), 0 ≤ x.toInt → y.toInt = 2 * x.toInt → x.toInt + n = (N.toInt + 1) / 2 → (∀ c j, c ≠ 15 → gI u c j = gI (sI s 10 (ix r) 0) c j) → (∀ j, (j < 64 * ix r ∨ 64 * ix r + 64 ≤ j) → gI u 15 j = gI s 15 j) → (∀ i : Nat, (i : Int) < x.toInt → (gI u 15 (64 * ix r + i)).toInt = 2 * i) → wpcV PP 39 cm39 16 11 [some (.ref 0), some (.int r), some (.int x), some (.int y)] [] u Q := by
    intro n
    induction n with
    | zero =>
      intro x y u x0 xy xn ua ub uc
      have u28 : gI u 0 28 = N := by rw [ua 0 _ (by decide), gI_sI, if_neg (by omega), h28]
      refine c39_11 _ _ _ _ _ ⟨fun q => absurd q (by rw [u28, i32_lt]; omega), fun _ => ⟨rb, h _ (fun c j c1 c2 c3 => ?_) (fun j => ?_) (fun j hj => ?_) ?_ (fun j hj => ?_) (fun i hi => ?_)⟩⟩
      · rw [gI_sI, if_neg (fun k => c2 k.1), ua c j c3, gI_sI, if_neg (fun k => c1 k.1)]
      · rw [gI_sI, if_neg (by omega), ua 10 j (by decide), gI_sI]; simp
      · rw [gI_sI, if_neg (fun k => hj k.2), ua 11 j (by decide), gI_sI, if_neg (by omega)]
      · rw [gI_sI, if_pos ⟨rfl, rfl⟩]; omega
      · rw [gI_sI, if_neg (by omega)]; exact ub j hj
      · rw [gI_sI, if_neg (by omega)]; exact uc i (by omega)
    | succ n ih =>
      intro x y u x0 xy xn ua ub uc
      have u28 : gI u 0 28 = N := by rw [ua 0 _ (by decide), gI_sI, if_neg (by omega), h28]
      have e1 : (x + 1).toInt = x.toInt + 1 := by rw [i32_add] <;> simp <;> omega
      have e2 := own_two y (by omega)
      obtain ⟨f1, f2, f3⟩ := own_ix hr (x := x) (by omega)
      have xi := ix_int x0
      refine c39_11 _ _ _ _ _ ⟨fun _ => c49_in _ _ _ _ ⟨f2, ih (x + 1) (y + 2) _ (by omega) (by omega) (by omega) (fun c j c3 => ?_) (fun j hj => ?_) (fun i hi => ?_)⟩, fun q => absurd (by rw [u28, i32_lt]; omega) q⟩
      · rw [gI_sI, if_neg (fun k => c3 k.1), ua c j c3]
      · rw [gI_sI, if_neg (by omega)]; exact ub j hj
      · rw [gI_sI]
        by_cases w : (i : Int) = x.toInt
        · rw [if_pos ⟨rfl, by omega⟩]; omega
        · rw [if_neg (by omega)]; exact uc i (by omega)
  exact key ((N.toInt + 1) / 2).toNat 0 0 _ (by decide) (by decide) (by show (0 : Int) + _ = _; omega) (fun _ _ _ => rfl) (fun j hj => by rw [gI_sI, if_neg (by omega)]) (fun i hi => absurd hi (by show ¬ _ < (0 : Int); omega))
/-- the state after the constructor -/
def own_Z (N M P : Int32) (s : St) : Prop := gI s 0 28 = N ∧ gI s 0 29 = M ∧ gI s 0 30 = P ∧ gI s 0 31 = 0 ∧ gI s 0 40 = 0 ∧ (∀ r, r < 4 → gI s 10 r = 0) ∧ (∀ r, r < 4 → (gI s 11 r).toInt = (N.toInt + 1) / 2) ∧ (∀ r, r < 4 → ∀ i : Nat, 2 * (i : Int) < N.toInt → (gI s 15 (64 * r + i)).toInt = 2 * i) ∧ (∀ c j, (1 ≤ c ∧ c ≤ 9 ∨ 12 ≤ c ∧ c ≤ 14 ∨ c = 16) → gI s c j = 0)
theorem own_0 (x y z : Int32) (Q : St → Prop) (h : ∀ N M P t, N = (if x < 8 then 8 else if 64 < x then 64 else x) → M = (if y < 8 then 8 else if 64 < y then 64 else y) → P = (if z < 8 then 8 else if 32 < z then 32 else z) → (8 ≤ N.toInt ∧ N.toInt ≤ 64) → (8 ≤ M.toInt ∧ M.toInt ≤ 64) → (8 ≤ P.toInt ∧ P.toInt ≤ 32) → own_Z N M P t → Q t) : calV PP 0 0 [.ref 0, .int x, .int y, .int z] s0 Q := by
  apply c0_in
  apply own_clamp
  apply own_clamp
  apply own_clamp
  generalize eN : (if x < 8 then (8 : Int32) else if 64 < x then 64 else x) = N
  generalize eM : (if y < 8 then (8 : Int32) else if 64 < y then 64 else y) = M
  generalize eP : (if z < 8 then (8 : Int32) else if 32 < z then 32 else z) = P
  have rN := own_cl_rng (by decide) eN.symm
  have rM := own_cl_rng (by decide) eM.symm
  have rP := own_cl_rng (by decide) eP.symm
  simp at rN rM rP
  replace h := fun t => h N M P t eN.symm eM.symm eP.symm rN rM rP
  generalize hS : sI (sI (sI (sI (sI (sI (sI s0 0 26 64) 0 27 4) 0 28 N) 0 29 M) 0 30 P) 0 31 0) 0 40 0 = S
  have h28 : gI S 0 28 = N := by subst hS; rfl
  have h29 : gI S 0 29 = M := by subst hS; rfl
  have h30 : gI S 0 30 = P := by subst hS; rfl
  have h31 : gI S 0 31 = 0 := by subst hS; rfl
  have h40 : gI S 0 40 = 0 := by subst hS; rfl
  have hz : ∀ c j, 1 ≤ c → gI S c j = 0 := fun c j hc => by
    subst hS
    rw [gI_sI, if_neg (by omega), gI_sI, if_neg (by omega), gI_sI, if_neg (by omega), gI_sI, if_neg (by omega), gI_sI, if_neg (by omega), gI_sI, if_neg (by omega), gI_sI, if_neg (by omega)]
    rfl
  clear hS eN eM eP
  refine loop_up (F := fun i => ∀ u, (∀ c j, c ≠ 10 → c ≠ 11 → c ≠ 15 → gI u c j = gI S c j) → (∀ r, gI u 10 r = 0) → (∀ r, r < ix i → (gI u 11 r).toInt = (N.toInt + 1) / 2) → (∀ r, r < ix i → ∀ k : Nat, 2 * (k : Int) < N.toInt → (gI u 15 (64 * r + k)).toInt = 2 * k) → wpcV PP 0 cm0 16 198 [some (.ref 0), none, none, none, some (.int i)] [] u Q) 4 (by decide) (fun i h0 h1 e ih u ua ub uc ud => ?_) (fun i hi u ua ub uc ud => ?_) 0 (by decide) (by decide) S (fun _ _ _ _ _ => rfl) (fun r => hz 10 r (by decide)) (fun r hr => absurd hr (by simp [ix])) (fun r hr => absurd hr (by simp [ix]))
  · have xi := ix_int h0
    have xj := ix_int (i := i + 1) (by omega)
    refine c0_198 _ _ _ ⟨fun _ => own_39 u i N ⟨h0, h1⟩ rN (by rw [ua 0 _ (by decide) (by decide) (by decide), h28]) _ fun t t1 t2 t3 t4 t5 t6 => ih t (fun c j a b d => by rw [t1 c j a b d, ua c j a b d]) (fun r => ?_) (fun r hr => ?_) (fun r hr k hk => ?_), fun q => absurd (by rw [i32_lt]; exact h1) q⟩
    · rw [t2 r]; split
      · rfl
      · exact ub r
    · by_cases w : r = ix i
      · subst w; exact t4
      · rw [t3 r w]; exact uc r (by omega)
    · by_cases w : r = ix i
      · subst w; exact t6 k hk
      · rw [t5 _ (by omega)]; exact ud r (by omega) k hk
  · have xi := ix_int (i := i) (by omega)
    refine c0_198 _ _ _ ⟨fun q => absurd q (by rw [i32_lt, hi]; decide), fun _ => h u ⟨?_, ?_, ?_, ?_, ?_, fun r _ => ub r, fun r hr => uc r (by omega), fun r hr => ud r (by omega), fun c j hc => ?_⟩⟩
    · rw [ua 0 _ (by decide) (by decide) (by decide), h28]
    · rw [ua 0 _ (by decide) (by decide) (by decide), h29]
    · rw [ua 0 _ (by decide) (by decide) (by decide), h30]
    · rw [ua 0 _ (by decide) (by decide) (by decide), h31]
    · rw [ua 0 _ (by decide) (by decide) (by decide), h40]
    · rw [ua c j (by omega) (by omega) (by omega), hz c j (by omega)]
theorem own_22 (s : St) (r : Int32) (Q : Int32 → St → Prop) (h : Q (if 0 ≤ r.toInt ∧ r.toInt < 4 then 1 else 0) s) : calI PP 22 16 [.ref 0, .int r] s Q := by
  apply c22_in
  refine ⟨fun a => ?_, fun a => ⟨fun b => ?_, fun b => ?_⟩⟩
  · rw [i32_lt] at a; simp at a; rw [if_neg (by omega)] at h; exact h
  · rw [i32_lt] at a b; simp at a b; rw [if_pos ⟨a, b⟩] at h; exact h
  · rw [i32_lt] at a b; simp at a b; rw [if_neg (by omega)] at h; exact h
theorem own_23 (s : St) (r N : Int32) (h28 : gI s 0 28 = N) (Q : Int32 → St → Prop) (h : Q (if 0 ≤ r.toInt ∧ r.toInt < N.toInt then 1 else 0) s) : calI PP 23 16 [.ref 0, .int r] s Q := by
  apply c23_in
  rw [h28]
  refine ⟨fun a => ?_, fun a => ⟨fun b => ?_, fun b => ?_⟩⟩
  · rw [i32_lt] at a; simp at a; rw [if_neg (by omega)] at h; exact h
  · rw [i32_lt] at a b; simp at a; rw [if_pos ⟨a, b⟩] at h; exact h
  · rw [i32_lt] at a b; simp at a; rw [if_neg (by omega)] at h; exact h

theorem own_mod2 {x : Int32} (hx : 0 ≤ x.toInt) : x % 2 = 0 ↔ x.toInt % 2 = 0 := by
  rw [i32_eq, Int32.toInt_mod]
  simp [Int.tmod_eq_emod_of_nonneg hx]
theorem own_and1 (x : Int32) : x &&& 1 = 1 ↔ x.toInt % 2 = 1 := by
  have := Jvm.Kit.i32_mask x 1 (k := 1) (by decide) (by decide)
  rw [i32_eq, this]
  simp

/-- createOp -/
theorem own_26 (s : St) (k r x : Int32) (hr : 0 ≤ r.toInt ∧ r.toInt < 4) (hn : inb 64 (gI s 0 31)) (Q : Int32 → St → Prop)
    (h : ∀ t, (∀ j, j ≠ 31 → gI t 0 j = gI s 0 j) → gI t 0 31 = gI s 0 31 + 1 → (∀ c j, 1 ≤ c → (c ≤ 8 → j ≠ ix (gI s 0 31)) → (c = 10 → j ≠ ix r) → gI t c j = gI s c j) → gI t 10 (ix r) = gI s 10 (ix r) + 1 → gI t 1 (ix (gI s 0 31)) = k → gI t 2 (ix (gI s 0 31)) = r → gI t 3 (ix (gI s 0 31)) = gI s 10 (ix r) + 1 → gI t 4 (ix (gI s 0 31)) = 0 → gI t 5 (ix (gI s 0 31)) = 0 → gI t 6 (ix (gI s 0 31)) = 0 → gI t 7 (ix (gI s 0 31)) = 0 → gI t 8 (ix (gI s 0 31)) = x → Q (gI s 0 31) t) : calI PP 26 16 [.ref 0, .int k, .int r, .int x] s Q := by
  have rb : inb 4 r := hr
  apply c26_in
  generalize en : gI s 0 31 = n at h hn ⊢
  refine ⟨rb, rb, hn, hn, hn, hn, ?_⟩
  apply c27_in
  refine ⟨hn, hn, hn, hn, h _ ?_ ?_ ?_ ?_ ?_ ?_ ?_ ?_ ?_ ?_ ?_ ?_⟩
  · intro j hj; simp [gI_sI, hj]
  · simp [gI_sI]
  · intro c j c1 c8 c10
    have n0 : c ≠ 0 := by omega
    simp only [gI_sI]
    by_cases w : c ≤ 8
    · have := c8 w; have : c ≠ 10 := by omega
      simp [*]
    · have : c ≠ 1 := by omega
      have : c ≠ 2 := by omega
      have : c ≠ 3 := by omega
      have : c ≠ 4 := by omega
      have : c ≠ 5 := by omega
      have : c ≠ 6 := by omega
      have : c ≠ 7 := by omega
      have : c ≠ 8 := by omega
      by_cases v : c = 10
      · have := c10 v; simp [*]
      · simp [*]
  all_goals simp [gI_sI]

def own_X (s : St) : Prop := gI s 0 28 = 8 ∧ gI s 0 29 = 8 ∧ gI s 0 30 = 8 ∧ (∀ r, r < 4 → gI s 11 r = 4) ∧ (∀ r, r < 4 → ∀ i : Nat, i < 4 → (gI s 15 (64 * r + i)).toInt = 2 * i)
def own_op (s : St) (n : Nat) (r u A B : Int32) : Prop := gI s 1 n = (if u = 0 then 3 else 2) ∧ gI s 2 n = r ∧ gI s 3 n = 1 ∧ gI s 4 n = 2 ∧ (gI s 5 n).toInt = 3 * A.toInt ∧ (gI s 6 n).toInt = 3 * B.toInt + 2 ∧ gI s 7 n = u
theorem own_cell {r c : Int32} (hr : 0 ≤ r.toInt ∧ r.toInt < 4) (hc : 0 ≤ c.toInt ∧ c.toInt < 8) {k : Int32} (hk : 0 ≤ k.toInt ∧ k.toInt < 4) : inb 1024 ((r * 64 + c) * 4 + k) ∧ ix ((r * 64 + c) * 4 + k) = 256 * ix r + 4 * ix c + ix k := by
  obtain ⟨f1, f2, f3⟩ := own_ix hr (x := c) (by omega)
  have e := own_ix4 (w := r * 64 + c) (i := k) (by omega) hk
  have a := ix_int hr.1
  have b := ix_int hc.1
  have d := ix_int hk.1
  have g := ix_int (i := (r * 64 + c) * 4 + k) (by omega)
  exact ⟨⟨by omega, by show _ < (1024 : Int); omega⟩, by omega⟩
/-- offerWinner of a link op -/
theorem own_37 (s : St) (r c k w g : Int32) (hr : 0 ≤ r.toInt ∧ r.toInt < 4) (hc : 0 ≤ c.toInt ∧ c.toInt < 8) (hk : inb 64 k) (h4 : gI s 4 (ix k) = 2) (hw : 0 < w.toInt)
    (ho : gI s 16 (256 * ix r + 4 * ix c + 2) = 0 ∨ (gI s 16 (256 * ix r + 4 * ix c + 2) = w ∧ ∀ Q : Int32 → St → Prop, Q g s → calI PP 31 16 [.ref 0, .int k, .int (w - 1)] s Q)) (Q : St → Prop)
    (h1 : (gI s 16 (256 * ix r + 4 * ix c + 2) = 0 ∨ g ≠ 0) → Q (sI s 16 (256 * ix r + 4 * ix c + 2) (k + 1))) (h2 : ¬ (gI s 16 (256 * ix r + 4 * ix c + 2) = 0 ∨ g ≠ 0) → Q s) : calV PP 37 16 [.ref 0, .int r, .int c, .int k] s Q := by
  obtain ⟨f1, f2⟩ := own_cell hr hc (k := 2) (by decide)
  have x2 : ix (2 : Int32) = 2 := by decide
  rw [x2] at f2
  apply c37_in
  rw [h4]
  refine ⟨hk, fun q => absurd q (by decide), fun _ => ⟨fun _ => c50_in _ _ _ _ _ ?_, fun q => absurd (by decide) q⟩⟩
  rw [f2]
  rcases ho with z | ⟨z, hg⟩
  · rw [z]
    refine ⟨f1, fun _ => c37_56 _ _ _ _ ⟨f1, ?_⟩, fun q => absurd (by decide) q⟩
    rw [f2]; exact h1 (Or.inl z)
  · rw [z]
    have e : (w - 1).toInt = w.toInt - 1 := by have := w.toInt_lt; rw [i32_sub] <;> simp <;> omega
    refine ⟨f1, fun q => absurd q (by rw [i32_lt, e]; simp; omega), fun _ => hg _ ⟨fun a => h2 ?_, fun a => c37_56 _ _ _ _ ⟨f1, ?_⟩⟩⟩
    · rintro (q | q)
      · rw [z] at q; rw [q] at hw; simp at hw
      · exact q a
    · rw [f2]; exact h1 (Or.inr a)
/-- applyMarkOp of a link op -/
theorem own_36 (s : St) (r k w g ρ u A B : Int32) (hr : 0 ≤ r.toInt ∧ r.toInt < 4) (hk : inb 64 k) (h28 : gI s 0 28 = 8) (op : own_op s (ix k) ρ u A B) (hA : 0 ≤ A.toInt ∧ A.toInt ≤ B.toInt ∧ B.toInt < 8) (hw : 0 < w.toInt)
    (ho : ∀ j, j < 8 → gI s 16 (256 * ix r + 4 * j + 2) = 0 ∨ (gI s 16 (256 * ix r + 4 * j + 2) = w ∧ ∀ u : St, (∀ c j, c ≠ 16 → gI u c j = gI s c j) → ∀ Q : Int32 → St → Prop, Q g u → calI PP 31 16 [.ref 0, .int k, .int (w - 1)] u Q)) (Q : St → Prop)
    (h : ∀ t, (∀ c j, c ≠ 16 → gI t c j = gI s c j) → (∀ j, j % 4 ≠ 2 ∨ j / 256 ≠ ix r → gI t 16 j = gI s 16 j) → (∀ j : Nat, j < 8 → gI t 16 (256 * ix r + 4 * j + 2) = if (A.toInt ≤ j ∧ (j : Int) ≤ B.toInt) ∧ (gI s 16 (256 * ix r + 4 * j + 2) = 0 ∨ g ≠ 0) then k + 1 else gI s 16 (256 * ix r + 4 * j + 2)) → Q t) : calV PP 36 16 [.ref 0, .int r, .int k] s Q := by
  obtain ⟨o1, o2, o3, o4, o5, o6, o7⟩ := op
  apply c36_in
  refine ⟨hk, fun m em => ?_⟩
  have ed : (gI s 5 (ix k) / 3).toInt = A.toInt := by
    rw [Jvm.Kit.i32_div (by rw [o5]; omega), o5]
    show Int.tdiv (3 * A.toInt) 3 = A.toInt
    rw [Int.tdiv_eq_ediv_of_nonneg (by omega)]; omega
  have : m = A := by rw [em, if_neg (by rw [i32_lt, ed]; simp; omega), i32_eq, ed]
  subst this
  clear em ed
  have e3 : ∀ c : Int32, 0 ≤ c.toInt → c.toInt ≤ 8 → (3 * c + 1 : Int32).toInt = 3 * c.toInt + 1 := by
    intro c c0 c1
    have e1 : (3 * c : Int32).toInt = 3 * c.toInt := by rw [i32_mul] <;> simp <;> omega
    rw [i32_add] <;> rw [e1] <;> simp <;> omega
  refine loop_up (F := fun c => m.toInt ≤ c.toInt → ∀ u, (∀ c j, c ≠ 16 → gI u c j = gI s c j) → (∀ j, j % 4 ≠ 2 ∨ j / 256 ≠ ix r → gI u 16 j = gI s 16 j) → (∀ j : Nat, j < 8 → gI u 16 (256 * ix r + 4 * j + 2) = if (m.toInt ≤ j ∧ (j : Int) < c.toInt) ∧ (gI s 16 (256 * ix r + 4 * j + 2) = 0 ∨ g ≠ 0) then k + 1 else gI s 16 (256 * ix r + 4 * j + 2)) → wpcV PP 36 cm36 16 18 [some (.ref 0), some (.int r), some (.int k), none, some (.int c), none] [] u Q) (B.toInt + 1) (by omega) (fun c h0 h1 e ih hm u ua ub uc => ?_) (fun c hi hm u ua ub uc => ?_) m hA.1 (by omega) (Int.le_refl _) s (fun _ _ _ => rfl) (fun _ _ => rfl) (fun j hj => by rw [if_neg (by omega)])
  · have ec := e3 c h0 (by omega)
    have xc := ix_int h0
    have cj := uc (ix c) (by omega)
    rw [if_neg (by omega)] at cj
    refine c36_18 _ _ _ _ _ ⟨fun _ => ⟨hk, fun _ => ⟨hk, fun _ => ?_, fun q => absurd (by rw [i32_lt, ua 5 _ (by decide), o5, ec]; omega) q⟩, fun q => absurd (by rw [i32_lt, ua 6 _ (by decide), o6, ec]; omega) q⟩, fun q => absurd (by rw [ua 0 _ (by decide), h28, i32_lt]; simp; omega) q⟩
    refine own_37 u r c k w g hr ⟨h0, by omega⟩ hk (by rw [ua 4 _ (by decide), o4]) hw ?_ _ (fun q => ?_) (fun q => ?_)
    · rw [cj]
      rcases ho (ix c) (by omega) with z | ⟨z, hg⟩
      · exact Or.inl z
      · exact Or.inr ⟨z, hg u ua⟩
    · rw [cj] at q
      refine c36_68 _ _ _ _ _ (ih (by omega) _ (fun c' j hc => by rw [gI_sI, if_neg (fun k => hc k.1), ua c' j hc]) (fun j hj => by rw [gI_sI, if_neg (by omega), ub j hj]) fun j hj => ?_)
      rw [gI_sI]
      by_cases v : j = ix c
      · subst v
        rw [if_pos ⟨rfl, rfl⟩, if_pos ⟨by omega, q⟩]
      · rw [if_neg (by omega), uc j hj]
        by_cases v2 : m.toInt ≤ j ∧ (j : Int) < c.toInt
        · by_cases v3 : gI s 16 (256 * ix r + 4 * j + 2) = 0 ∨ g ≠ 0
          · rw [if_pos ⟨v2, v3⟩, if_pos ⟨by omega, v3⟩]
          · rw [if_neg (fun q => v3 q.2), if_neg (fun q => v3 q.2)]
        · rw [if_neg (fun q => v2 q.1), if_neg (fun q => v2 (by omega))]
    · rw [cj] at q
      refine c36_68 _ _ _ _ _ (ih (by omega) _ ua ub fun j hj => ?_)
      rw [uc j hj]
      by_cases v3 : gI s 16 (256 * ix r + 4 * j + 2) = 0 ∨ g ≠ 0
      · have v : j ≠ ix c := fun v => by subst v; exact q v3
        by_cases v2 : m.toInt ≤ j ∧ (j : Int) < c.toInt
        · rw [if_pos ⟨v2, v3⟩, if_pos ⟨by omega, v3⟩]
        · rw [if_neg (fun q => v2 q.1), if_neg (fun q => v2 (by omega))]
      · rw [if_neg (fun q => v3 q.2), if_neg (fun q => v3 q.2)]
  · have ec := e3 c (by omega) (by omega)
    have fin : Q u := h u ua ub fun j hj => by
      rw [uc j hj]
      by_cases v3 : gI s 16 (256 * ix r + 4 * j + 2) = 0 ∨ g ≠ 0
      · by_cases v2 : m.toInt ≤ j ∧ (j : Int) ≤ B.toInt
        · rw [if_pos ⟨by omega, v3⟩, if_pos ⟨v2, v3⟩]
        · rw [if_neg (fun q => v2 (by omega)), if_neg (fun q => v2 q.1)]
      · rw [if_neg (fun q => v3 q.2), if_neg (fun q => v3 q.2)]
    exact c36_18 _ _ _ _ _ ⟨fun _ => ⟨hk, fun q => absurd q (by rw [i32_lt, ua 6 _ (by decide), o6, ec]; omega), fun _ => fin⟩, fun _ => fin⟩
/-- applyOp of a link op that is new here -/
theorem own_34 (s : St) (r k w g ρ u A B : Int32) (hr : 0 ≤ r.toInt ∧ r.toInt < 4) (hk : 0 ≤ k.toInt ∧ k.toInt < 2) (hn : k < gI s 0 31) (h28 : gI s 0 28 = 8) (op : own_op s (ix k) ρ u A B) (hA : 0 ≤ A.toInt ∧ A.toInt ≤ B.toInt ∧ B.toInt < 8) (hw : 0 < w.toInt) (h12 : gI s 12 (64 * ix r + ix k) = 0) (h10 : gI s 10 (ix r) = 0 ∨ gI s 10 (ix r) = 1)
    (ho : ∀ j, j < 8 → gI s 16 (256 * ix r + 4 * j + 2) = 0 ∨ (gI s 16 (256 * ix r + 4 * j + 2) = w ∧ ∀ u : St, (∀ c j, c ≠ 10 → c ≠ 12 → c ≠ 16 → gI u c j = gI s c j) → ∀ Q : Int32 → St → Prop, Q g u → calI PP 31 16 [.ref 0, .int k, .int (w - 1)] u Q)) (Q : Int32 → St → Prop)
    (h : ∀ t, (∀ c j, c ≠ 10 → c ≠ 12 → c ≠ 16 → gI t c j = gI s c j) → gI t 10 (ix r) = 1 → (∀ j, j ≠ ix r → gI t 10 j = gI s 10 j) → (∀ j, gI t 12 j = if j = 64 * ix r + ix k then 1 else gI s 12 j) → (∀ j, j % 4 ≠ 2 ∨ j / 256 ≠ ix r → gI t 16 j = gI s 16 j) → (∀ j : Nat, j < 8 → gI t 16 (256 * ix r + 4 * j + 2) = if (A.toInt ≤ j ∧ (j : Int) ≤ B.toInt) ∧ (gI s 16 (256 * ix r + 4 * j + 2) = 0 ∨ g ≠ 0) then k + 1 else gI s 16 (256 * ix r + 4 * j + 2)) → Q 1 t) : calI PP 34 16 [.ref 0, .int r, .int k] s Q := by
  have rb : inb 4 r := hr
  have kb : inb 64 k := ⟨hk.1, by show _ < (64 : Int); omega⟩
  have hk' := hk
  obtain ⟨f1, f2, f3⟩ := own_ix hr (x := k) (by omega)
  obtain ⟨o1, o2, o3, o4, o5, o6, o7⟩ := id op
  apply c34_in
  refine own_22 s r _ ?_
  rw [if_pos hr]
  refine ⟨fun q => absurd q (by decide), fun _ => c24_in _ _ _ ⟨fun q => absurd q (by rw [i32_lt]; simp; omega), fun _ => ⟨fun _ => ⟨fun q => absurd q (by decide), fun _ => ?_⟩, fun q => absurd hn q⟩⟩⟩
  apply c47_in
  rw [f3, o3]
  have go : ∀ v : St, (∀ c j, c ≠ 10 → c ≠ 12 → gI v c j = gI s c j) → gI v 10 (ix r) = 1 → (∀ j, j ≠ ix r → gI v 10 j = gI s 10 j) → (∀ j, gI v 12 j = if j = 64 * ix r + ix k then 1 else gI s 12 j) → wpcI PP 34 cm34 16 70 [some (.ref 0), some (.int r), some (.int k), none, none] [] v Q := by
    intro v va v10 vb v12
    have vo : own_op v (ix k) ρ u A B := ⟨by rw [va 1 _ (by decide) (by decide), o1], by rw [va 2 _ (by decide) (by decide), o2], by rw [va 3 _ (by decide) (by decide), o3], by rw [va 4 _ (by decide) (by decide), o4], by rw [va 5 _ (by decide) (by decide), o5], by rw [va 6 _ (by decide) (by decide), o6], by rw [va 7 _ (by decide) (by decide), o7]⟩
    apply c34_70
    rw [vo.1]
    refine ⟨kb, fun q => ?_, fun _ => ⟨fun q => ?_, fun _ => ?_⟩⟩
    · exfalso; revert q; split <;> decide
    · exfalso; revert q; split <;> decide
    refine own_36 v r k w g ρ u A B hr kb (by rw [va 0 _ (by decide) (by decide), h28]) vo hA hw (fun j hj => ?_) _ fun t ta tb tc => h t (fun c j a b d => by rw [ta c j d, va c j a b]) (by rw [ta 10 _ (by decide), v10]) (fun j hj => by rw [ta 10 _ (by decide), vb j hj]) (fun j => by rw [ta 12 _ (by decide), v12]) (fun j hj => by rw [tb j hj, va 16 _ (by decide) (by decide)]) (fun j hj => by rw [tc j hj, va 16 _ (by decide) (by decide)])
    rw [va 16 _ (by decide) (by decide)]
    rcases ho j hj with z | ⟨z, hg⟩
    · exact Or.inl z
    · exact Or.inr ⟨z, fun w hw => hg w fun c j a b d => by rw [hw c j d, va c j a b]⟩
  refine ⟨f2, fun _ => ⟨f2, kb, rb, fun q => ⟨kb, rb, ?_⟩, fun q => ?_⟩, fun q => absurd h12 q⟩
  · refine go _ (fun c j a b => by rw [gI_sI, if_neg (fun k => a k.1), gI_sI, if_neg (fun k => b k.1)]) (by rw [gI_sI, if_pos ⟨rfl, rfl⟩]) (fun j hj => by rw [gI_sI, if_neg (fun k => hj k.2), gI_sI, if_neg (by omega)]) (fun j => ?_)
    rw [gI_sI, if_neg (by omega), gI_sI]
    by_cases v : j = 64 * ix r + ix k
    · rw [if_pos ⟨rfl, v⟩, if_pos v]
    · rw [if_neg (fun k => v k.2), if_neg v]
  · have c1 : gI s 10 (ix r) = 1 := by
      rcases h10 with z | z
      · rw [z] at q; exact absurd (by decide) q
      · exact z
    refine go _ (fun c j a b => by rw [gI_sI, if_neg (fun k => b k.1)]) (by rw [gI_sI, if_neg (by omega), c1]) (fun j hj => by rw [gI_sI, if_neg (by omega)]) (fun j => ?_)
    rw [gI_sI]
    by_cases v : j = 64 * ix r + ix k
    · rw [if_pos ⟨rfl, v⟩, if_pos v]
    · rw [if_neg (fun k => v k.2), if_neg v]
theorem own_34o (s : St) (r k : Int32) (hr : 0 ≤ r.toInt ∧ r.toInt < 4) (hk : 0 ≤ k.toInt ∧ k.toInt < 2) (hn : k < gI s 0 31) (h12 : gI s 12 (64 * ix r + ix k) ≠ 0) (Q : Int32 → St → Prop) (h : Q 0 s) : calI PP 34 16 [.ref 0, .int r, .int k] s Q := by
  obtain ⟨f1, f2, f3⟩ := own_ix hr (x := k) (by omega)
  apply c34_in
  refine own_22 s r _ ?_
  rw [if_pos hr]
  refine ⟨fun q => absurd q (by decide), fun _ => c24_in _ _ _ ⟨fun q => absurd q (by rw [i32_lt]; simp; omega), fun _ => ⟨fun _ => ⟨fun q => absurd q (by decide), fun _ => ?_⟩, fun q => absurd hn q⟩⟩⟩
  apply c47_in
  rw [f3]
  exact ⟨f2, fun q => absurd q h12, fun _ => h⟩
/-- slotAtPosition -/
theorem own_40 (s : St) (r p : Int32) (hr : 0 ≤ r.toInt ∧ r.toInt < 4) (hp : 0 ≤ p.toInt ∧ p.toInt < 4) (hx : own_X s) (Q : Int32 → St → Prop) (h : ∀ x, x.toInt = 2 * p.toInt → Q x s) : calI PP 40 16 [.ref 0, .int r, .int p] s Q := by
  obtain ⟨x28, x29, x30, x11, x15⟩ := hx
  obtain ⟨f1, f2, f3⟩ := own_ix hr (x := p) (by omega)
  have a := ix_int hr.1
  have b := ix_int hp.1
  apply c40_in
  refine ⟨fun q => absurd q (by rw [i32_lt]; simp; omega), fun _ => ⟨hr, fun _ => c49_in _ _ _ _ ⟨f2, h _ ?_⟩, fun q => absurd (by rw [x11 _ (by omega), i32_lt]; simp; omega) q⟩⟩
  rw [f3, x15 _ (by omega) _ (by omega), b]
theorem own_u (t : Int32) : 0 ≤ (t &&& 255).toInt ∧ (t &&& 255).toInt < 256 := by
  have := Jvm.Kit.i32_mask t 255 (k := 8) (by decide) (by decide)
  rw [this]; omega
theorem own_act {u : Int32} (hu : 0 ≤ u.toInt ∧ u.toInt < 256) : (2 + 4 * u : Int32).toInt = 2 + 4 * u.toInt ∧ (2 + 4 * u : Int32) % 4 = 2 ∧ (2 + 4 * u : Int32) / 4 = u := by
  have e1 : (4 * u : Int32).toInt = 4 * u.toInt := by rw [i32_mul] <;> simp <;> omega
  have e : (2 + 4 * u : Int32).toInt = 2 + 4 * u.toInt := by rw [i32_add] <;> rw [e1] <;> simp <;> omega
  refine ⟨e, ?_, ?_⟩
  · rw [i32_eq, Int32.toInt_mod, e]
    show Int.tmod (2 + 4 * u.toInt) 4 = 2
    rw [Int.tmod_eq_emod_of_nonneg (by omega)]; omega
  · rw [i32_eq, Jvm.Kit.i32_div (by rw [e]; omega), e]
    show Int.tdiv (2 + 4 * u.toInt) 4 = u.toInt
    rw [Int.tdiv_eq_ediv_of_nonneg (by omega)]; omega
/-- mark of a link, refused -/
theorem own_4n (s : St) (r u a b : Int32) (hr : 0 ≤ r.toInt ∧ r.toInt < 4) (hu : 0 ≤ u.toInt ∧ u.toInt < 256) (hx : own_X s) (hn : ¬ (0 ≤ a.toInt ∧ a.toInt ≤ b.toInt ∧ b.toInt < 4)) (Q : Int32 → St → Prop) (h : Q (-1) s) : calI PP 4 16 [.ref 0, .int r, .int (2 + 4 * u), .int a, .int b] s Q := by
  obtain ⟨e1, e2, e3⟩ := own_act hu
  have xr := ix_int hr.1
  apply c4_in
  apply c20_in
  refine own_22 s r _ ?_
  rw [if_pos hr, e2]
  refine ⟨fun q => absurd q (by decide), fun _ => ⟨fun q => absurd q (by rw [i32_lt, e1]; simp; omega), fun _ => ⟨fun q => absurd q (by rw [i32_lt, e1]; simp; omega), fun _ => ⟨fun _ => ?_, fun q => absurd rfl q⟩⟩⟩⟩
  refine c20_39 _ _ _ _ _ ⟨fun _ => ⟨fun _ => h, fun q => absurd rfl q⟩, fun p => ⟨fun _ => ⟨fun _ => h, fun q => absurd rfl q⟩, fun q => ⟨hr, fun w => ?_, fun _ => ⟨fun _ => h, fun q => absurd rfl q⟩⟩⟩⟩
  exfalso
  rw [hx.2.2.2.1 _ (by omega)] at w
  rw [i32_lt] at p q w
  simp at p w
  omega
/-- mark of a link, the n-th op -/
theorem own_4y (s : St) (r u a b n : Int32) (hr : 0 ≤ r.toInt ∧ r.toInt < 4) (hu : 0 ≤ u.toInt ∧ u.toInt < 256) (hx : own_X s) (hv : 0 ≤ a.toInt ∧ a.toInt ≤ b.toInt ∧ b.toInt < 4) (hn : 0 ≤ n.toInt ∧ n.toInt < 2) (h31 : gI s 0 31 = n) (h40 : gI s 0 40 = n) (h10 : gI s 10 (ix r) = 0) (h12 : gI s 12 (64 * ix r + ix n) = 0) (h16 : ∀ j, j < 8 → gI s 16 (256 * ix r + 4 * j + 2) = 0) (Q : Int32 → St → Prop)
    (h : ∀ t A B, own_X t → A.toInt = 2 * a.toInt → B.toInt = 2 * b.toInt → own_op t (ix n) r u A B → gI t 0 31 = n + 1 → gI t 0 40 = n + 1 → gI t 10 (ix r) = 1 → (∀ j, j ≠ ix r → gI t 10 j = gI s 10 j) → (∀ j, gI t 12 j = if j = 64 * ix r + ix n then 1 else gI s 12 j) → (∀ j, j % 4 ≠ 2 ∨ j / 256 ≠ ix r → gI t 16 j = gI s 16 j) → (∀ j : Nat, j < 8 → gI t 16 (256 * ix r + 4 * j + 2) = if A.toInt ≤ j ∧ (j : Int) ≤ B.toInt then n + 1 else 0) → (∀ c j, 1 ≤ c → c ≤ 8 → j ≠ ix n → gI t c j = gI s c j) → Q n t) : calI PP 4 16 [.ref 0, .int r, .int (2 + 4 * u), .int a, .int b] s Q := by
  obtain ⟨e1, e2, e3⟩ := own_act hu
  have xr := ix_int hr.1
  have nb : inb 64 n := ⟨hn.1, by show _ < (64 : Int); omega⟩
  obtain ⟨x28, x29, x30, x11, x15⟩ := id hx
  apply c4_in
  apply c20_in
  refine own_22 s r _ ?_
  rw [if_pos hr, e2, e3]
  refine ⟨fun q => absurd q (by decide), fun _ => ⟨fun q => absurd q (by rw [i32_lt, e1]; simp; omega), fun _ => ⟨fun q => absurd q (by rw [i32_lt, e1]; simp; omega), fun _ => ⟨fun _ => ?_, fun q => absurd rfl q⟩⟩⟩⟩
  refine c20_39 _ _ _ _ _ ⟨fun q => absurd q (by rw [i32_lt]; simp; omega), fun p => ⟨fun q => absurd q (by rw [i32_lt]; omega), fun q => ⟨hr, fun w => ?_, fun q => absurd (by rw [x11 _ (by omega), i32_lt]; simp; omega) q⟩⟩⟩
  apply c21_in
  rw [h31, x29, h40, x30]
  refine ⟨fun _ => ⟨fun _ => ⟨fun q => absurd q (by decide), fun _ => ?_⟩, fun q => absurd (by rw [i32_lt]; simp; omega) q⟩, fun q => absurd (by rw [i32_lt]; simp; omega) q⟩
  refine own_40 s r a hr (by omega) hx _ fun A eA => own_40 s r b hr (by omega) hx _ fun B eB => ?_
  refine ⟨fun q => absurd q (by rw [i32_lt]; simp; omega), fun _ => ⟨fun q => absurd q (by rw [i32_lt]; simp; omega), fun _ => ?_⟩⟩
  intro m em
  apply c44_in
  refine ⟨fun q => absurd q (by decide), fun _ => ⟨fun q => absurd q (by decide), fun _ => ?_⟩⟩
  have e3A : (3 * A : Int32).toInt = 3 * A.toInt := by rw [i32_mul] <;> simp <;> omega
  have e3B : (3 * B + 2 : Int32).toInt = 3 * B.toInt + 2 := by
    have : (3 * B : Int32).toInt = 3 * B.toInt := by rw [i32_mul] <;> simp <;> omega
    rw [i32_add] <;> rw [this] <;> simp <;> omega
  refine own_26 s m r 0 hr (by rw [h31]; exact nb) _ ?_
  rw [h31]
  intro t t0 t31 tc t10 t1 t2 t3 t4 t5 t6 t7 t8
  rw [h10] at t10 t3
  apply c27_in
  refine ⟨nb, nb, nb, nb, ?_⟩
  generalize hU : sI (sI (sI (sI t 4 (ix n) 2) 5 (ix n) (3 * A)) 6 (ix n) (3 * B + 2)) 7 (ix n) u = U
  have uc : ∀ c j, (c < 4 ∨ 7 < c ∨ j ≠ ix n) → gI U c j = gI t c j := fun c j hc => by
    subst hU; rw [gI_sI, if_neg (by omega), gI_sI, if_neg (by omega), gI_sI, if_neg (by omega), gI_sI, if_neg (by omega)]
  have u4 : gI U 4 (ix n) = 2 := by subst hU; simp [gI_sI]
  have u5 : gI U 5 (ix n) = 3 * A := by subst hU; simp [gI_sI]
  have u6 : gI U 6 (ix n) = 3 * B + 2 := by subst hU; simp [gI_sI]
  have u7 : gI U 7 (ix n) = u := by subst hU; simp [gI_sI]
  clear hU
  have z1 : (0 : Int32) + 1 = 1 := by decide
  have op : own_op U (ix n) r u A B := ⟨by rw [uc 1 _ (by omega), t1, em], by rw [uc 2 _ (by omega), t2], by rw [uc 3 _ (by omega), t3, z1], u4, by rw [u5, e3A], by rw [u6, e3B], u7⟩
  have n1 : (n + 1).toInt = n.toInt + 1 := by rw [i32_add] <;> simp <;> omega
  have u31 : gI U 0 31 = n + 1 := by rw [uc 0 _ (by omega), t31]
  have s12 : ∀ j, gI U 12 j = gI s 12 j := fun j => by rw [uc 12 _ (by omega), tc 12 j (by decide) (by omega) (by omega)]
  have s16 : ∀ j, gI U 16 j = gI s 16 j := fun j => by rw [uc 16 _ (by omega), tc 16 j (by decide) (by omega) (by omega)]
  apply c28_in
  refine own_34 U r n 1 0 r u A B hr hn (by rw [u31, i32_lt]; omega) (by rw [uc 0 _ (by omega), t0 _ (by decide), x28]) op (by omega) (by decide) (by rw [s12, h12]) (Or.inr (by rw [uc 10 _ (by omega), t10, z1])) (fun j hj => Or.inl (by rw [s16, h16 j hj])) _ fun v va v10 vb v12 v16 vw => ?_
  apply c32_in
  have v40 : gI v 0 40 = n := by rw [va 0 _ (by decide) (by decide) (by decide), uc 0 _ (by omega), t0 _ (by decide), h40]
  have v30 : gI v 0 30 = 8 := by rw [va 0 _ (by decide) (by decide) (by decide), uc 0 _ (by omega), t0 _ (by decide), x30]
  have v28 : gI v 0 28 = 8 := by rw [va 0 _ (by decide) (by decide) (by decide), uc 0 _ (by omega), t0 _ (by decide), x28]
  have v29 : gI v 0 29 = 8 := by rw [va 0 _ (by decide) (by decide) (by decide), uc 0 _ (by omega), t0 _ (by decide), x29]
  have v31 : gI v 0 31 = n + 1 := by rw [va 0 _ (by decide) (by decide) (by decide), u31]
  rw [v40, v30]
  have ob : ∀ c, (1 ≤ c ∧ c ≤ 8) → gI v c (ix n) = gI U c (ix n) := fun c hc => va c _ (by omega) (by omega) (by omega)
  refine ⟨fun _ => ⟨⟨hn.1, by show _ < (32 : Int); omega⟩, ?_⟩, fun q => absurd (by rw [i32_lt]; simp; omega) q⟩
  generalize hV : sI (sI v 9 (ix n) n) 0 40 (n + 1) = V
  have Vc : ∀ c j, c ≠ 0 → c ≠ 9 → gI V c j = gI v c j := fun c j a b => by
    subst hV; rw [gI_sI, if_neg (by omega), gI_sI, if_neg (by omega)]
  have V0 : ∀ j, j ≠ 40 → gI V 0 j = gI v 0 j := fun j a => by
    subst hV; rw [gI_sI, if_neg (by omega), gI_sI, if_neg (by omega)]
  have V40 : gI V 0 40 = n + 1 := by subst hV; simp [gI_sI]
  clear hV
  obtain ⟨p1, p2, p3, p4, p5, p6, p7⟩ := op
  refine h V A B ⟨?_, ?_, ?_, fun r hr => ?_, fun r hr i hi => ?_⟩ eA eB ⟨?_, ?_, ?_, ?_, ?_, ?_, ?_⟩ ?_ V40 ?_ (fun j hj => ?_) (fun j => ?_) (fun j hj => ?_) (fun j hj => ?_) (fun c j c1 c8 hj => ?_)
  · rw [V0 _ (by decide), v28]
  · rw [V0 _ (by decide), v29]
  · rw [V0 _ (by decide), v30]
  · rw [Vc 11 _ (by decide) (by decide), va 11 _ (by decide) (by decide) (by decide), uc 11 _ (by omega), tc 11 _ (by decide) (by omega) (by omega), x11 r hr]
  · rw [Vc 15 _ (by decide) (by decide), va 15 _ (by decide) (by decide) (by decide), uc 15 _ (by omega), tc 15 _ (by decide) (by omega) (by omega), x15 r hr i hi]
  · rw [Vc 1 _ (by decide) (by decide), ob 1 (by omega), p1]
  · rw [Vc 2 _ (by decide) (by decide), ob 2 (by omega), p2]
  · rw [Vc 3 _ (by decide) (by decide), ob 3 (by omega), p3]
  · rw [Vc 4 _ (by decide) (by decide), ob 4 (by omega), p4]
  · rw [Vc 5 _ (by decide) (by decide), ob 5 (by omega), p5]
  · rw [Vc 6 _ (by decide) (by decide), ob 6 (by omega), p6]
  · rw [Vc 7 _ (by decide) (by decide), ob 7 (by omega), p7]
  · rw [V0 _ (by decide), v31]
  · rw [Vc 10 _ (by decide) (by decide), v10]
  · rw [Vc 10 _ (by decide) (by decide), vb j hj, uc 10 _ (by omega), tc 10 _ (by decide) (by omega) (fun _ => hj)]
  · rw [Vc 12 _ (by decide) (by decide), v12, s12]
  · rw [Vc 16 _ (by decide) (by decide), v16 j hj, s16]
  · rw [Vc 16 _ (by decide) (by decide), vw j hj, s16, h16 j hj]
    by_cases q : A.toInt ≤ j ∧ (j : Int) ≤ B.toInt
    · rw [if_pos ⟨q, Or.inl rfl⟩, if_pos q]
    · rw [if_neg (fun w => q w.1), if_neg q]
  · rw [Vc c _ (by omega) (by omega), va c _ (by omega) (by omega) (by omega), uc c _ (by omega), tc c _ c1 (fun _ => hj) (by omega)]
/-- what a slot with the winner w shows -/
def own_v (s : St) (w v : Int32) : Prop := (w = 0 ∧ v = 0) ∨ ∃ n ρ u A B : Int32, (0 ≤ n.toInt ∧ n.toInt < 2) ∧ w = n + 1 ∧ own_op s (ix n) ρ u A B ∧ v = if u = 0 then 0 else 4 + (u <<< ((8 : Int32) &&& 31))
theorem own_9 (s : St) (r c v : Int32) (hr : 0 ≤ r.toInt ∧ r.toInt < 4) (hc : 0 ≤ c.toInt ∧ c.toInt < 8) (h28 : gI s 0 28 = 8) (hz : ∀ j, j % 4 ≠ 2 → gI s 16 j = 0) (hv : own_v s (gI s 16 (256 * ix r + 4 * ix c + 2)) v) (Q : Int32 → St → Prop) (h : Q v s) : calI PP 9 16 [.ref 0, .int r, .int c] s Q := by
  apply c9_in
  refine own_22 s r _ ?_
  rw [if_pos hr]
  refine ⟨fun q => absurd q (by decide), fun _ => own_23 s c 8 h28 _ ?_⟩
  rw [if_pos (by simp; omega)]
  refine ⟨fun q => absurd q (by decide), fun _ => ?_⟩
  have m1 : (0 : Int32) - 1 < 0 := by decide
  have zero : ∀ (t x : Int32), (0 ≤ t.toInt ∧ t.toInt < 4) → t.toInt ≠ 2 → wpcI PP 9 cm9 16 25 [some (.ref 0), some (.int r), some (.int c), some (.int (x + 0)), some (.int (t + 1))] [] s Q → wpcI PP 9 cm9 16 25 [some (.ref 0), some (.int r), some (.int c), some (.int x), some (.int t)] [] s Q := by
    intro t x ht h2 hq
    obtain ⟨f1, f2⟩ := own_cell hr hc ht
    have xt := ix_int ht.1
    refine c9_25 _ _ _ _ _ _ ⟨fun _ => ?_, fun q => absurd (by rw [i32_lt]; simp; omega) q⟩
    apply c45_in
    apply c50_in
    rw [f2, hz _ (by omega)]
    exact ⟨f1, fun _ => hq, fun q => absurd m1 q⟩
  refine zero 0 0 (by decide) (by decide) ?_
  refine zero (0 + 1) _ (by decide) (by decide) ?_
  have e2 : (0 + 1 + 1 : Int32) = 2 := by decide
  have e0 : (0 + 0 + 0 : Int32) = 0 := by decide
  rw [e2, e0]
  have last : wpcI PP 9 cm9 16 25 [some (.ref 0), some (.int r), some (.int c), some (.int (0 + v)), some (.int (2 + 1))] [] s Q := by
    refine zero (2 + 1) _ (by decide) (by decide) ?_
    have ev : 0 + v + 0 = v := by simp
    rw [ev]
    exact c9_25 _ _ _ _ _ _ ⟨fun q => absurd q (by decide), fun _ => h⟩
  obtain ⟨f1, f2⟩ := own_cell hr hc (k := 2) (by decide)
  have x2 : ix (2 : Int32) = 2 := by decide
  refine c9_25 _ _ _ _ _ _ ⟨fun _ => ?_, fun q => absurd (by decide) q⟩
  apply c45_in
  apply c50_in
  rw [f2, x2]
  rcases hv with ⟨w0, v0⟩ | ⟨n, ρ, u, A, B, hn, hw, op, ev⟩
  · rw [w0]
    subst v0
    exact ⟨f1, fun _ => last, fun q => absurd m1 q⟩
  · have e : n + 1 - 1 = n := by simp
    rw [hw, e]
    obtain ⟨o1, o2, o3, o4, o5, o6, o7⟩ := op
    have nb : inb 64 n := ⟨hn.1, by show _ < (64 : Int); omega⟩
    refine ⟨f1, fun q => absurd q (by rw [i32_lt]; simp; omega), fun _ => ⟨nb, fun q => ?_, fun q => ?_⟩⟩
    · have uz : u ≠ 0 := fun z => by rw [o1, if_pos z] at q; exact absurd q (by decide)
      rw [if_neg uz] at ev
      apply c46_in
      refine ⟨fun q => absurd q (by decide), fun _ => ⟨fun q => absurd q (by decide), fun _ => ⟨fun _ => ⟨fun _ => ⟨nb, ?_⟩, fun q => absurd rfl q⟩, fun q => absurd rfl q⟩⟩⟩
      rw [o7, ← ev]; exact last
    · have uz : u = 0 := Classical.byContradiction fun z => q (by rw [o1, if_neg z])
      rw [if_pos uz] at ev
      rw [ev] at last; exact last
theorem own_8 (s : St) (a b : Int32) (ha : 0 ≤ a.toInt ∧ a.toInt < 4) (hb : 0 ≤ b.toInt ∧ b.toInt < 4) (hab : a ≠ b) (Q : Int32 → St → Prop) (h : wpcI PP 8 cm8 16 32 [some (.ref 0), some (.int a), some (.int b), some (.int (0 : Int32)), some (.int (0 : Int32))] [] s Q) : calI PP 8 16 [.ref 0, .int a, .int b] s Q := by
  apply c8_in
  refine own_22 s a _ ?_
  rw [if_pos ha]
  refine ⟨fun q => absurd q (by decide), fun _ => own_22 s b _ ?_⟩
  rw [if_pos hb]
  exact ⟨fun q => absurd q (by decide), fun _ => ⟨fun q => absurd q hab, fun _ => h⟩⟩
theorem own_8n (s : St) (a b x k : Int32) (hk : k < gI s 0 31) (ha : 0 ≤ a.toInt ∧ a.toInt < 4) (hk2 : 0 ≤ k.toInt ∧ k.toInt < 2) (h12 : gI s 12 (64 * ix a + ix k) = 0) (Q : Int32 → St → Prop) (h : wpcI PP 8 cm8 16 32 [some (.ref 0), some (.int a), some (.int b), some (.int x), some (.int (k + 1))] [] s Q) : wpcI PP 8 cm8 16 32 [some (.ref 0), some (.int a), some (.int b), some (.int x), some (.int k)] [] s Q := by
  obtain ⟨f1, f2, f3⟩ := own_ix ha (x := k) (by omega)
  refine c8_32 _ _ _ _ _ _ ⟨fun _ => c47_in _ _ _ _ ?_, fun q => absurd hk q⟩
  rw [f3]
  exact ⟨f2, fun _ => c8_72 _ _ _ _ _ _ h, fun q => absurd h12 q⟩
theorem own_8y (s : St) (a b x k : Int32) (hk : k < gI s 0 31) (ha : 0 ≤ a.toInt ∧ a.toInt < 4) (hk2 : 0 ≤ k.toInt ∧ k.toInt < 2) (h12 : gI s 12 (64 * ix a + ix k) = 1) (Q : Int32 → St → Prop) (h : calI PP 34 16 [.ref 0, .int b, .int k] s (fun v t => wpcI PP 8 cm8 16 32 [some (.ref 0), some (.int a), some (.int b), some (.int (if v = 0 then x else x + 1)), some (.int (k + 1))] [] t Q)) : wpcI PP 8 cm8 16 32 [some (.ref 0), some (.int a), some (.int b), some (.int x), some (.int k)] [] s Q := by
  obtain ⟨f1, f2, f3⟩ := own_ix ha (x := k) (by omega)
  refine c8_32 _ _ _ _ _ _ ⟨fun _ => c47_in _ _ _ _ ?_, fun q => absurd hk q⟩
  rw [f3, h12]
  refine ⟨f2, fun q => absurd q (by decide), fun _ => calI.mono h fun v t ht m em => ?_⟩
  subst em
  exact c8_72 _ _ _ _ _ _ ht
theorem own_8e (s : St) (a b x k : Int32) (hk : ¬ k < gI s 0 31) (Q : Int32 → St → Prop) (h : Q x s) : wpcI PP 8 cm8 16 32 [some (.ref 0), some (.int a), some (.int b), some (.int x), some (.int k)] [] s Q :=
  c8_32 _ _ _ _ _ _ ⟨fun q => absurd q hk, fun _ => h⟩
/-- the law's last loop -/
theorem own_end (s : St) (a b c d u0 u1 m3 m6 : Int32) (h28 : gI s 0 28 = 8) (hz : ∀ j, j % 4 ≠ 2 → gI s 16 j = 0)
    (hw : ∀ r : Int32, (r = 0 ∨ r = 1) → ∀ x : Int32, (0 ≤ x.toInt ∧ x.toInt < 8) → ∀ m59, m59 = (if m3 = (0 : Int32) then (0 : Int32) else (if x < ((2 : Int32) * a) then (0 : Int32) else (if ((2 : Int32) * b) < x then (0 : Int32) else (1 : Int32)))) → ∀ m62, m62 = (if m6 = (0 : Int32) then (0 : Int32) else (if x < ((2 : Int32) * c) then (0 : Int32) else (if ((2 : Int32) * d) < x then (0 : Int32) else (1 : Int32)))) → own_v s (gI s 16 (256 * ix r + 4 * ix x + 2)) (if m62 = (0 : Int32) then (if m59 = (0 : Int32) then (0 : Int32) else (if u0 = (0 : Int32) then (0 : Int32) else ((4 : Int32) + (u0 <<< ((8 : Int32) &&& 31))))) else (if u1 = (0 : Int32) then (0 : Int32) else ((4 : Int32) + (u1 <<< ((8 : Int32) &&& 31)))))) :
    wplI PP QQ none 0 lm0 201 [none, some (.int a), some (.int b), none, some (.int c), some (.int d), some (.ref 1), some (.int u0), some (.int u1), some (.int m3), some (.int m6), none, none, some (.int (0 : Int32)), none, none, none] [] (W1 s) (fun v _ => v = 1) := by
  refine loop_up (F := fun i => wplI PP QQ none 0 lm0 201 [none, some (.int a), some (.int b), none, some (.int c), some (.int d), some (.ref 1), some (.int u0), some (.int u1), some (.int m3), some (.int m6), none, none, some (.int i), none, none, none] [] (W1 s) (fun v _ => v = 1)) 8 (by decide) (fun i h0 h1 e ih => ?_) (fun i hi => ?_) 0 (by decide) (by decide)
  · refine l0_201 _ _ _ _ _ _ _ _ _ _ ⟨fun _ => ?_, fun q => absurd (by rw [i32_lt]; exact h1) q⟩
    intro m59 e59 m62 e62 m65 e65
    have g := fun r hr => hw r hr i ⟨h0, h1⟩ m59 e59 m62 e62
    rw [← e65] at g
    exact own_9 s 0 i m65 (by decide) ⟨h0, h1⟩ h28 hz (g 0 (Or.inl rfl)) _ ⟨fun _ => own_9 s 1 i m65 (by decide) ⟨h0, h1⟩ h28 hz (g 1 (Or.inr rfl)) _ ⟨fun _ => ih, fun q => absurd rfl q⟩, fun q => absurd rfl q⟩
  · exact l0_201 _ _ _ _ _ _ _ _ _ _ ⟨fun q => absurd q (by rw [i32_lt, hi]; decide), fun _ => rfl⟩
/-- the law's test for a slot inside -/
theorem own_in {m a b A B x m59 : Int32} (hv : 0 ≤ a.toInt ∧ a.toInt ≤ b.toInt ∧ b.toInt < 4) (eA : A.toInt = 2 * a.toInt) (eB : B.toInt = 2 * b.toInt) (hx : 0 ≤ x.toInt) (hm : m ≠ 0) (e : m59 = (if m = (0 : Int32) then (0 : Int32) else (if x < ((2 : Int32) * a) then (0 : Int32) else (if ((2 : Int32) * b) < x then (0 : Int32) else (1 : Int32))))) : m59 = if A.toInt ≤ ix x ∧ (ix x : Int) ≤ B.toInt then 1 else 0 := by
  have ea : (2 * a : Int32).toInt = 2 * a.toInt := by rw [i32_mul] <;> simp <;> omega
  have eb : (2 * b : Int32).toInt = 2 * b.toInt := by rw [i32_mul] <;> simp <;> omega
  have xx := ix_int hx
  rw [e, if_neg hm]
  by_cases p : x < 2 * a
  · rw [if_pos p, if_neg (by rw [i32_lt] at p; omega)]
  · rw [if_neg p]
    by_cases q : 2 * b < x
    · rw [if_pos q, if_neg (by rw [i32_lt] at q; omega)]
    · rw [if_neg q, if_pos (by rw [i32_lt] at p q; omega)]
theorem own_m {a b m : Int32} (e : m = (if a < (0 : Int32) then (0 : Int32) else (if b < a then (0 : Int32) else (if b < (4 : Int32) then (1 : Int32) else (0 : Int32))))) : m = if 0 ≤ a.toInt ∧ a.toInt ≤ b.toInt ∧ b.toInt < 4 then 1 else 0 := by
  rw [e]
  by_cases p : a < 0
  · rw [if_pos p, if_neg (by rw [i32_lt] at p; simp at p; omega)]
  · rw [if_neg p]
    by_cases q : b < a
    · rw [if_pos q, if_neg (by rw [i32_lt] at q; omega)]
    · rw [if_neg q]
      by_cases w : b < 4
      · rw [if_pos w, if_pos (by rw [i32_lt] at p q w; simp at p w; omega)]
      · rw [if_neg w, if_neg (by rw [i32_lt] at p q w; simp at p w; omega)]
theorem own_gr (s : St) (k l g : Int32) (hk : inb 64 k) (hl : inb 64 l) (h3 : gI s 3 (ix k) = gI s 3 (ix l)) (hg : g = if gI s 2 (ix l) < gI s 2 (ix k) then 1 else 0) (Q : Int32 → St → Prop) (h : Q g s) : calI PP 31 16 [.ref 0, .int k, .int l] s Q := by
  apply c31_in
  refine ⟨hk, hl, fun _ => ⟨hk, hl, fun q => ?_, fun q => ?_⟩, fun q => absurd h3 q⟩
  · rw [hg, if_pos q] at h; exact h
  · rw [hg, if_neg q] at h; exact h
theorem law_ok (i0 i1 i2 i3 i4 i5 : Int32) : lalI PP QQ none 0 [.int i0, .int i1, .int i2, .int i3, .int i4, .int i5] W0 (fun v _ => v = 1) := by
  apply l0_in
  refine own_0 8 8 8 _ fun N M P S eN eM eP hN hM hP z => ?_
  have eN : N = 8 := by rw [eN]; decide
  have eM : M = 8 := by rw [eM]; decide
  have eP : P = 8 := by rw [eP]; decide
  subst eN eM eP
  intro m3 e3 m6 e6
  have e3 := own_m e3
  have e6 := own_m e6
  have u0 := own_u i0
  have u1 := own_u i3
  generalize i0 &&& 255 = p0 at u0 ⊢
  generalize i3 &&& 255 = p1 at u1 ⊢
  have x0 : ix (0 : Int32) = 0 := by decide
  have x1 : ix (1 : Int32) = 1 := by decide
  obtain ⟨z28, z29, z30, z31, z40, z10, z11, z15, zz⟩ := z
  have X : own_X S := by
    refine ⟨z28, z29, z30, fun r hr => ?_, fun r hr i hi => z15 r hr i ?_⟩
    · rw [i32_eq, z11 r hr]; decide
    · show 2 * (i : Int) < 8; omega
  have n0 : ¬ (0 : Int32) < 0 := by decide
  have o1 : (0 : Int32) + 1 = 1 := by decide
  have o2 : (1 : Int32) + 1 = 2 := by decide
  by_cases v0 : 0 ≤ i1.toInt ∧ i1.toInt ≤ i2.toInt ∧ i2.toInt < 4
  · rw [if_pos v0] at e3; subst e3
    refine own_4y S 0 p0 i1 i2 0 (by decide) u0 X v0 (by decide) z31 z40 (by rw [x0]; exact z10 0 (by decide)) (zz 12 _ (by omega)) (fun j _ => zz 16 _ (by omega)) _ fun T A B TX eA eB Top T31 T40 T10 T10' T12 T16 TW Toth => ?_
    intro m em
    refine ⟨fun _ => ?_, fun q => absurd (by rw [em]; decide) q⟩
    rw [x0] at Top T10 T10' T12 T16 TW Toth
    rw [o1] at T31 T40 TW
    have T16z : ∀ j, j % 4 ≠ 2 ∨ j / 256 ≠ 0 → gI T 16 j = 0 := fun j hj => by rw [T16 j hj]; exact zz 16 _ (by omega)
    have T12z : ∀ j, gI T 12 j = if j = 0 then 1 else 0 := fun j => by
      rw [T12]; split
      · rfl
      · exact zz 12 _ (by omega)
    by_cases v1 : 0 ≤ i4.toInt ∧ i4.toInt ≤ i5.toInt ∧ i5.toInt < 4
    · rw [if_pos v1] at e6; subst e6
      refine own_4y T 1 p1 i4 i5 1 (by decide) u1 TX v1 (by decide) T31 T40 (by rw [x1, T10' 1 (by decide)]; exact z10 1 (by decide)) (by rw [x1, T12z]; decide) (fun j hj => by rw [x1, T16z _ (by omega)]) _ fun U C D UX eC eD Uop U31 U40 U10 U10' U12 U16 UW Uoth => ?_
      intro m em
      refine ⟨fun _ => ?_, fun q => absurd (by rw [em]; decide) q⟩
      rw [x1] at Uop U10 U10' U12 U16 UW Uoth
      rw [o2] at U31 U40 UW
      have Uop0 : own_op U 0 0 p0 A B := by
        obtain ⟨q1, q2, q3, q4, q5, q6, q7⟩ := Top
        exact ⟨by rw [Uoth 1 _ (by decide) (by decide) (by decide), q1], by rw [Uoth 2 _ (by decide) (by decide) (by decide), q2], by rw [Uoth 3 _ (by decide) (by decide) (by decide), q3], by rw [Uoth 4 _ (by decide) (by decide) (by decide), q4], by rw [Uoth 5 _ (by decide) (by decide) (by decide), q5], by rw [Uoth 6 _ (by decide) (by decide) (by decide), q6], by rw [Uoth 7 _ (by decide) (by decide) (by decide), q7]⟩
      have U12z : ∀ j, gI U 12 j = if j = 65 then 1 else if j = 0 then 1 else 0 := fun j => by rw [U12, T12z]
      have U10z : gI U 10 0 = 1 := by rw [U10' 0 (by decide), T10]
      have UW0 : ∀ j : Nat, j < 8 → gI U 16 (256 * 0 + 4 * j + 2) = if A.toInt ≤ j ∧ (j : Int) ≤ B.toInt then 1 else 0 := fun j hj => by
        rw [U16 _ (by omega), TW j hj]
      have U16z : ∀ j, j % 4 ≠ 2 → gI U 16 j = 0 := fun j hj => by rw [U16 j (Or.inl hj), T16z j (Or.inl hj)]
      have l0 : (0 : Int32) < gI U 0 31 := by rw [U31]; decide
      have l1 : (1 : Int32) < gI U 0 31 := by rw [U31]; decide
      -- sync 0 to 1
      refine own_8 U 0 1 (by decide) (by decide) (by decide) _ ?_
      refine own_8y U 0 1 0 0 l0 (by decide) (by decide) (by rw [x0, U12z]; decide) _ ?_
      refine own_34 U 1 0 2 0 0 p0 A B (by decide) (by decide) l0 UX.1 Uop0 (by omega) (by decide) (by rw [x0, x1, U12z]; decide) (Or.inr (by rw [x1, U10])) (fun j hj => ?_) _ fun V Va V10 V10' V12 V16 VW => ?_
      · rw [x1, UW j hj]
        by_cases q : C.toInt ≤ j ∧ (j : Int) ≤ D.toInt
        · refine Or.inr ⟨by rw [if_pos q], fun w hw Q hq => ?_⟩
          have e : (2 : Int32) - 1 = 1 := by decide
          rw [e]
          refine own_gr w 0 1 0 (by decide) (by decide) ?_ ?_ Q hq
          · rw [x0, x1, hw 3 _ (by decide) (by decide) (by decide), hw 3 _ (by decide) (by decide) (by decide), Uop0.2.2.1, Uop.2.2.1]
          · rw [x0, x1, hw 2 _ (by decide) (by decide) (by decide), hw 2 _ (by decide) (by decide) (by decide), Uop0.2.1, Uop.2.1]; decide
        · exact Or.inl (by rw [if_neg q])
      rw [x1] at V10 V10' V16 VW
      rw [x0, x1] at V12
      rw [o1] at VW
      have V12z : ∀ j, gI V 12 j = if j = 64 then 1 else if j = 65 then 1 else if j = 0 then 1 else 0 := fun j => by rw [V12, U12z]
      have V31 : gI V 0 31 = 2 := by rw [Va 0 _ (by decide) (by decide) (by decide), U31]
      have i1' : (if (1 : Int32) = 0 then (0 : Int32) else 0 + 1) = 1 := by decide
      rw [i1', o1]
      refine own_8n V 0 1 1 1 (by rw [V31]; decide) (by decide) (by decide) (by rw [x0, x1, V12z]; decide) _ ?_
      refine own_8e V 0 1 1 _ (by rw [V31]; decide) _ ?_
      intro m em
      refine ⟨fun _ => ?_, fun q => absurd (by rw [em]; decide) q⟩
      -- sync 1 to 0
      refine own_8 V 1 0 (by decide) (by decide) (by decide) _ ?_
      refine own_8y V 1 0 0 0 (by rw [V31]; decide) (by decide) (by decide) (by rw [x0, x1, V12z]; decide) _ ?_
      refine own_34o V 0 0 (by decide) (by decide) (by rw [V31]; decide) (by rw [x0, V12z]; decide) _ ?_
      have i2' : (if (0 : Int32) = 0 then (0 : Int32) else 0 + 1) = 0 := by decide
      rw [i2', o1]
      refine own_8y V 1 0 0 1 (by rw [V31]; decide) (by decide) (by decide) (by rw [x1, V12z]; decide) _ ?_
      have Vop : ∀ {n : Nat} {ρ u A B : Int32}, own_op U n ρ u A B → own_op V n ρ u A B := fun h => by
        obtain ⟨q1, q2, q3, q4, q5, q6, q7⟩ := h
        exact ⟨by rw [Va 1 _ (by decide) (by decide) (by decide), q1], by rw [Va 2 _ (by decide) (by decide) (by decide), q2], by rw [Va 3 _ (by decide) (by decide) (by decide), q3], by rw [Va 4 _ (by decide) (by decide) (by decide), q4], by rw [Va 5 _ (by decide) (by decide) (by decide), q5], by rw [Va 6 _ (by decide) (by decide) (by decide), q6], by rw [Va 7 _ (by decide) (by decide) (by decide), q7]⟩
      have VW0 : ∀ j : Nat, j < 8 → gI V 16 (256 * 0 + 4 * j + 2) = if A.toInt ≤ j ∧ (j : Int) ≤ B.toInt then 1 else 0 := fun j hj => by rw [V16 _ (by omega), UW0 j hj]
      refine own_34 V 0 1 1 1 1 p1 C D (by decide) (by decide) (by rw [V31]; decide) (by rw [Va 0 _ (by decide) (by decide) (by decide)]; exact UX.1) (by rw [x1]; exact Vop Uop) (by omega) (by decide) (by rw [x0, x1, V12z]; decide) (Or.inr (by rw [x0, V10' 0 (by decide), U10z])) (fun j hj => ?_) _ fun W Wa W10 W10' W12 W16 WW => ?_
      · rw [x0, VW0 j hj]
        by_cases q : A.toInt ≤ j ∧ (j : Int) ≤ B.toInt
        · refine Or.inr ⟨by rw [if_pos q], fun w hw Q hq => ?_⟩
          have e : (1 : Int32) - 1 = 0 := by decide
          rw [e]
          refine own_gr w 1 0 1 (by decide) (by decide) ?_ ?_ Q hq
          · rw [x0, x1, hw 3 _ (by decide) (by decide) (by decide), hw 3 _ (by decide) (by decide) (by decide), (Vop Uop0).2.2.1, (Vop Uop).2.2.1]
          · rw [x0, x1, hw 2 _ (by decide) (by decide) (by decide), hw 2 _ (by decide) (by decide) (by decide), (Vop Uop0).2.1, (Vop Uop).2.1]; decide
        · exact Or.inl (by rw [if_neg q])
      rw [x0] at W16 WW
      rw [o2] at WW
      have W31 : gI W 0 31 = 2 := by rw [Wa 0 _ (by decide) (by decide) (by decide), V31]
      rw [i1', o2]
      refine own_8e W 1 0 1 _ (by rw [W31]; decide) _ ?_
      intro m em
      refine ⟨fun _ => ?_, fun q => absurd (by rw [em]; decide) q⟩
      have Wop : ∀ {n : Nat} {ρ u A B : Int32}, own_op V n ρ u A B → own_op W n ρ u A B := fun h => by
        obtain ⟨q1, q2, q3, q4, q5, q6, q7⟩ := h
        exact ⟨by rw [Wa 1 _ (by decide) (by decide) (by decide), q1], by rw [Wa 2 _ (by decide) (by decide) (by decide), q2], by rw [Wa 3 _ (by decide) (by decide) (by decide), q3], by rw [Wa 4 _ (by decide) (by decide) (by decide), q4], by rw [Wa 5 _ (by decide) (by decide) (by decide), q5], by rw [Wa 6 _ (by decide) (by decide) (by decide), q6], by rw [Wa 7 _ (by decide) (by decide) (by decide), q7]⟩
      have fop0 := Wop (Vop Uop0)
      have fop1 := Wop (Vop Uop)
      refine own_end W i1 i2 i4 i5 p0 p1 1 1 (by rw [Wa 0 _ (by decide) (by decide) (by decide), Va 0 _ (by decide) (by decide) (by decide)]; exact UX.1) (fun j hj => by rw [W16 j (Or.inl hj), V16 j (Or.inl hj), U16z j hj]) fun r hr x hx m59 e59 m62 e62 => ?_
      have g0 := own_in v0 eA eB hx.1 (by decide) e59
      have g1 := own_in v1 eC eD hx.1 (by decide) e62
      have xx := ix_int hx.1
      have val : gI W 16 (256 * ix r + 4 * ix x + 2) = if m62 = 0 then (if m59 = 0 then 0 else 1) else 2 := by
        rcases hr with rfl | rfl
        · rw [x0, WW (ix x) (by omega), VW0 (ix x) (by omega), g0, g1]
          by_cases q : C.toInt ≤ ix x ∧ (ix x : Int) ≤ D.toInt
          · rw [if_pos ⟨q, Or.inr (by decide)⟩, if_pos q, if_neg (by decide)]
          · rw [if_neg (fun w => q w.1), if_neg q, if_pos rfl]
            by_cases w : A.toInt ≤ ix x ∧ (ix x : Int) ≤ B.toInt
            · rw [if_pos w]; decide
            · rw [if_neg w]; decide
        · rw [x1, W16 _ (by omega), VW (ix x) (by omega), UW (ix x) (by omega), g0, g1]
          by_cases q : C.toInt ≤ ix x ∧ (ix x : Int) ≤ D.toInt
          · rw [if_pos q, if_pos q, if_neg (fun w => w.2.elim (by decide) (fun k => k rfl))]; exact (if_neg (by decide)).symm
          · rw [if_neg q, if_neg q, if_pos rfl]
            by_cases w : A.toInt ≤ ix x ∧ (ix x : Int) ≤ B.toInt
            · rw [if_pos w, if_pos ⟨w, Or.inl rfl⟩]; decide
            · rw [if_neg w, if_neg (fun k => w k.1)]; decide
      rw [val]
      by_cases q : m62 = 0
      · rw [if_pos q, if_pos q]
        by_cases w : m59 = 0
        · rw [if_pos w, if_pos w]; exact Or.inl ⟨rfl, rfl⟩
        · rw [if_neg w, if_neg w]; exact Or.inr ⟨0, 0, p0, A, B, by decide, by decide, fop0, rfl⟩
      · rw [if_neg q, if_neg q]; exact Or.inr ⟨1, 1, p1, C, D, by decide, by decide, fop1, rfl⟩
    · rw [if_neg v1] at e6; subst e6
      refine own_4n T 1 p1 i4 i5 (by decide) u1 TX v1 _ ?_
      intro m em
      refine ⟨fun _ => ?_, fun q => absurd (by rw [em]; decide) q⟩
      refine own_8 T 0 1 (by decide) (by decide) (by decide) _ ?_
      refine own_8y T 0 1 0 0 (by rw [T31]; decide) (by decide) (by decide) (by rw [x0, T12z]; decide) _ ?_
      refine own_34 T 1 0 2 0 0 p0 A B (by decide) (by decide) (by rw [T31]; decide) TX.1 Top (by omega) (by decide) (by rw [x0, x1, T12z]; decide) (Or.inl (by rw [x1, T10' 1 (by decide)]; exact z10 1 (by decide))) (fun j hj => Or.inl (by rw [x1, T16z _ (by omega)])) _ fun V Va V10 V10' V12 V16 VW => ?_
      rw [x1] at V10 V10' V16 VW
      rw [x0, x1] at V12
      rw [o1] at VW
      have V12z : ∀ j, gI V 12 j = if j = 64 then 1 else if j = 0 then 1 else 0 := fun j => by rw [V12, T12z]
      have V31 : gI V 0 31 = 1 := by rw [Va 0 _ (by decide) (by decide) (by decide), T31]
      have i1' : (if (1 : Int32) = 0 then (0 : Int32) else 0 + 1) = 1 := by decide
      have i2' : (if (0 : Int32) = 0 then (0 : Int32) else 0 + 1) = 0 := by decide
      rw [i1', o1]
      refine own_8e V 0 1 1 _ (by rw [V31]; decide) _ ?_
      intro m em
      refine ⟨fun _ => ?_, fun q => absurd (by rw [em]; decide) q⟩
      refine own_8 V 1 0 (by decide) (by decide) (by decide) _ ?_
      refine own_8y V 1 0 0 0 (by rw [V31]; decide) (by decide) (by decide) (by rw [x0, x1, V12z]; decide) _ ?_
      refine own_34o V 0 0 (by decide) (by decide) (by rw [V31]; decide) (by rw [x0, V12z]; decide) _ ?_
      rw [i2', o1]
      refine own_8e V 1 0 0 _ (by rw [V31]; decide) _ ?_
      intro m em
      refine ⟨fun _ => ?_, fun q => absurd (by rw [em]; decide) q⟩
      have fop0 : own_op V 0 0 p0 A B := by
        obtain ⟨q1, q2, q3, q4, q5, q6, q7⟩ := Top
        exact ⟨by rw [Va 1 _ (by decide) (by decide) (by decide), q1], by rw [Va 2 _ (by decide) (by decide) (by decide), q2], by rw [Va 3 _ (by decide) (by decide) (by decide), q3], by rw [Va 4 _ (by decide) (by decide) (by decide), q4], by rw [Va 5 _ (by decide) (by decide) (by decide), q5], by rw [Va 6 _ (by decide) (by decide) (by decide), q6], by rw [Va 7 _ (by decide) (by decide) (by decide), q7]⟩
      refine own_end V i1 i2 i4 i5 p0 p1 1 0 (by rw [Va 0 _ (by decide) (by decide) (by decide)]; exact TX.1) (fun j hj => by rw [V16 j (Or.inl hj), T16z j (Or.inl hj)]) fun r hr x hx m59 e59 m62 e62 => ?_
      have g0 := own_in v0 eA eB hx.1 (by decide) e59
      rw [if_pos rfl] at e62
      have xx := ix_int hx.1
      have val : gI V 16 (256 * ix r + 4 * ix x + 2) = if m59 = 0 then 0 else 1 := by
        rcases hr with rfl | rfl
        · rw [x0, V16 _ (by omega), TW (ix x) (by omega), g0]
          by_cases w : A.toInt ≤ ix x ∧ (ix x : Int) ≤ B.toInt
          · rw [if_pos w]; decide
          · rw [if_neg w]; decide
        · rw [x1, VW (ix x) (by omega), T16z _ (by omega), g0]
          by_cases w : A.toInt ≤ ix x ∧ (ix x : Int) ≤ B.toInt
          · rw [if_pos w, if_pos ⟨w, Or.inl rfl⟩]; decide
          · rw [if_neg w, if_neg (fun k => w k.1)]; decide
      rw [val, if_pos e62]
      by_cases w : m59 = 0
      · rw [if_pos w, if_pos w]; exact Or.inl ⟨rfl, rfl⟩
      · rw [if_neg w, if_neg w]; exact Or.inr ⟨0, 0, p0, A, B, by decide, by decide, fop0, rfl⟩
  · rw [if_neg v0] at e3; subst e3
    refine own_4n S 0 p0 i1 i2 (by decide) u0 X v0 _ ?_
    intro m em
    refine ⟨fun _ => ?_, fun q => absurd (by rw [em]; decide) q⟩
    by_cases v1 : 0 ≤ i4.toInt ∧ i4.toInt ≤ i5.toInt ∧ i5.toInt < 4
    · rw [if_pos v1] at e6; subst e6
      refine own_4y S 1 p1 i4 i5 0 (by decide) u1 X v1 (by decide) z31 z40 (by rw [x1]; exact z10 1 (by decide)) (zz 12 _ (by omega)) (fun j _ => zz 16 _ (by omega)) _ fun T A B TX eA eB Top T31 T40 T10 T10' T12 T16 TW Toth => ?_
      intro m em
      refine ⟨fun _ => ?_, fun q => absurd (by rw [em]; decide) q⟩
      rw [x0] at Top T12
      rw [x1] at T10 T10' T12 T16 TW
      rw [o1] at T31 T40 TW
      have T16z : ∀ j, j % 4 ≠ 2 ∨ j / 256 ≠ 1 → gI T 16 j = 0 := fun j hj => by rw [T16 j hj]; exact zz 16 _ (by omega)
      have T12z : ∀ j, gI T 12 j = if j = 64 then 1 else 0 := fun j => by
        rw [T12]; split
        · rfl
        · exact zz 12 _ (by omega)
      have i1' : (if (1 : Int32) = 0 then (0 : Int32) else 0 + 1) = 1 := by decide
      refine own_8 T 0 1 (by decide) (by decide) (by decide) _ ?_
      refine own_8n T 0 1 0 0 (by rw [T31]; decide) (by decide) (by decide) (by rw [x0, T12z]; decide) _ ?_
      rw [o1]
      refine own_8e T 0 1 0 _ (by rw [T31]; decide) _ ?_
      intro m em
      refine ⟨fun _ => ?_, fun q => absurd (by rw [em]; decide) q⟩
      refine own_8 T 1 0 (by decide) (by decide) (by decide) _ ?_
      refine own_8y T 1 0 0 0 (by rw [T31]; decide) (by decide) (by decide) (by rw [x0, x1, T12z]; decide) _ ?_
      refine own_34 T 0 0 2 0 1 p1 A B (by decide) (by decide) (by rw [T31]; decide) TX.1 Top (by omega) (by decide) (by rw [x0, T12z]; decide) (Or.inl (by rw [x0, T10' 0 (by decide)]; exact z10 0 (by decide))) (fun j hj => Or.inl (by rw [x0, T16z _ (by omega)])) _ fun V Va V10 V10' V12 V16 VW => ?_
      rw [x0] at V16 VW
      rw [o1] at VW
      have V31 : gI V 0 31 = 1 := by rw [Va 0 _ (by decide) (by decide) (by decide), T31]
      rw [i1', o1]
      refine own_8e V 1 0 1 _ (by rw [V31]; decide) _ ?_
      intro m em
      refine ⟨fun _ => ?_, fun q => absurd (by rw [em]; decide) q⟩
      have fop0 : own_op V 0 1 p1 A B := by
        obtain ⟨q1, q2, q3, q4, q5, q6, q7⟩ := Top
        exact ⟨by rw [Va 1 _ (by decide) (by decide) (by decide), q1], by rw [Va 2 _ (by decide) (by decide) (by decide), q2], by rw [Va 3 _ (by decide) (by decide) (by decide), q3], by rw [Va 4 _ (by decide) (by decide) (by decide), q4], by rw [Va 5 _ (by decide) (by decide) (by decide), q5], by rw [Va 6 _ (by decide) (by decide) (by decide), q6], by rw [Va 7 _ (by decide) (by decide) (by decide), q7]⟩
      refine own_end V i1 i2 i4 i5 p0 p1 0 1 (by rw [Va 0 _ (by decide) (by decide) (by decide)]; exact TX.1) (fun j hj => by rw [V16 j (Or.inl hj), T16z j (Or.inl hj)]) fun r hr x hx m59 e59 m62 e62 => ?_
      have g0 := own_in v1 eA eB hx.1 (by decide) e62
      rw [if_pos rfl] at e59
      have xx := ix_int hx.1
      have val : gI V 16 (256 * ix r + 4 * ix x + 2) = if m62 = 0 then 0 else 1 := by
        rcases hr with rfl | rfl
        · rw [x0, VW (ix x) (by omega), T16z _ (by omega), g0]
          by_cases w : A.toInt ≤ ix x ∧ (ix x : Int) ≤ B.toInt
          · rw [if_pos w, if_pos ⟨w, Or.inl rfl⟩]; decide
          · rw [if_neg w, if_neg (fun k => w k.1)]; decide
        · rw [x1, V16 _ (by omega), TW (ix x) (by omega), g0]
          by_cases w : A.toInt ≤ ix x ∧ (ix x : Int) ≤ B.toInt
          · rw [if_pos w]; decide
          · rw [if_neg w]; decide
      rw [val, if_pos e59]
      by_cases w : m62 = 0
      · rw [if_pos w, if_pos w]; exact Or.inl ⟨rfl, rfl⟩
      · rw [if_neg w, if_neg w]; exact Or.inr ⟨0, 1, p1, A, B, by decide, by decide, fop0, rfl⟩
    · rw [if_neg v1] at e6; subst e6
      refine own_4n S 1 p1 i4 i5 (by decide) u1 X v1 _ ?_
      intro m em
      refine ⟨fun _ => ?_, fun q => absurd (by rw [em]; decide) q⟩
      refine own_8 S 0 1 (by decide) (by decide) (by decide) _ ?_
      refine own_8e S 0 1 0 _ (by rw [z31]; decide) _ ?_
      intro m em
      refine ⟨fun _ => ?_, fun q => absurd (by rw [em]; decide) q⟩
      refine own_8 S 1 0 (by decide) (by decide) (by decide) _ ?_
      refine own_8e S 1 0 0 _ (by rw [z31]; decide) _ ?_
      intro m em
      refine ⟨fun _ => ?_, fun q => absurd (by rw [em]; decide) q⟩
      refine own_end S i1 i2 i4 i5 p0 p1 0 0 z28 (fun j hj => zz 16 _ (by omega)) fun r hr x hx m59 e59 m62 e62 => ?_
      rw [if_pos rfl] at e59 e62
      rw [if_pos e62, if_pos e59]
      exact Or.inl ⟨zz 16 _ (by omega), rfl⟩
theorem comes_1 {Post : Tables → Env → Array Value → State → Outcome → State → Prop} (hpost : ∀ tb e args s v u, (limb_1_1.after args s (.returned v) u = true ∧ limb_1_2.after args s (.returned v) u = true ∧ True) → FrameEnd s (.returned v) u (Jvm.fieldLocs frame_1_writes args s ++ Jvm.arrayLocs frame_1_arrays args s ++ Jvm.staticLocs frame_1_statics s) 48 5312 → Post tb e args s (.returned v) u) :
    ArmFor flags0 classFile x code maxLocals ret World_1 tables_1 room_1 Calls_1 rest_1 Pre_1 Post := by
  intro l hfl _ _ p e ha hc hk s m args below hf hA hF happ hP
  obtain ⟨hcalls, hrest, hpre⟩ := hP
  obtain ⟨-, -, -, hnamed, -, -, -, hat⟩ := (Spec.applies_iff hf).mp happ
  obtain ⟨hg, hn⟩ := and_e (Cond.before_iff.mp (show (Jvm.Cond.and given_1 narrow_1).before args s = true from hpre))
  obtain ⟨h1, g0⟩ := and_e hg
  obtain ⟨w0, w1, w2, w3, w4, w5, rfl⟩ : ∃ w0 w1 w2 w3 w4 w5 : Value, args = #[w0, w1, w2, w3, w4, w5] := by
    have hs : args.size = 6 := by simpa [Cond.value, given_1] using h1
    obtain ⟨L⟩ := args
    match L, hs with
    | [w0, w1, w2, w3, w4, w5], _ => exact ⟨w0, w1, w2, w3, w4, w5, rfl⟩
  have hw := fun d (hd : d ∈ tables_1) => atoms_spec (ws := Jvm.Cond.code x code maxLocals ret :: tables_1) hat d (List.mem_cons_of_mem _ hd)
  have hfit : Fit s := fun {y c} hc i hi => by
    obtain ⟨ha, rfl⟩ := Array.getElem?_eq_some_iff.mp hc
    have q := List.all_eq_true.mp ((Array.all_eq_true_iff_forall_mem.mp hF) _ (Array.getElem_mem ha)) i (List.mem_range.mpr hi)
    simpa [Array.getElem?_eq_getElem hi] using q
  obtain ⟨q0, g1⟩ := and_e g0
  obtain ⟨i0, e0⟩ := is_v q0
  obtain rfl : w0 = (.int i0) := Option.some.inj e0
  obtain ⟨q1, g2⟩ := and_e g1
  obtain ⟨i1, e1⟩ := is_v q1
  obtain rfl : w1 = (.int i1) := Option.some.inj e1
  obtain ⟨q2, g3⟩ := and_e g2
  obtain ⟨i2, e2⟩ := is_v q2
  obtain rfl : w2 = (.int i2) := Option.some.inj e2
  obtain ⟨q3, g4⟩ := and_e g3
  obtain ⟨i3, e3⟩ := is_v q3
  obtain rfl : w3 = (.int i3) := Option.some.inj e3
  obtain ⟨q4, g5⟩ := and_e g4
  obtain ⟨i4, e4⟩ := is_v q4
  obtain rfl : w4 = (.int i4) := Option.some.inj e4
  have q5 := g5
  obtain ⟨i5, e5⟩ := is_v q5
  obtain rfl : w5 = (.int i5) := Option.some.inj e5
  obtain ⟨f, w0, hr⟩ := law_run (law_ok i0 i1 i2 i3 i4 i5) (me := lm0) rfl
  have M : MetFree l x (head1 (Jvm.Cond.code x code maxLocals ret :: tables_1) room_1) (fun b U => b = #[.int i0, .int i1, .int i2, .int i3, .int i4, .int i5] ∧ s.Warmed39 U.vm ∧ U.heap = s.heap) (fun _ _ _ _ _ => True) (fun _ U o U' => ∃ u L, o = .returned u ∧ (u = some (.int 1) ∧ Fr s.heap.size L) ∧ FrameEnd U o U' L 48 5312) :=
    law_met (lkC s _ hw) (lkL s _ hw) (sc := none) (a := 0) (me := lm0) rfl l (bytes := code) (chk_ok dk_l0) (as := [.int i0, .int i1, .int i2, .int i3, .int i4, .int i5]) rfl (Nat.le_of_ble_eq_true rfl) hr trivial
  obtain ⟨n, o, h1, h2, h3, _, L, rfl, ⟨rfl, N⟩, hq⟩ := M p e ha hc hk s m _ below hf ((Spec.applies_iff_loose hf).mp happ).1 ⟨rfl, State.Warmed39.refl s, rfl⟩ trivial
  refine ⟨n, _, h1, h2, h3, hpost _ _ _ _ _ _ ⟨Cond.after_iff.mpr rfl, Cond.after_iff.mpr (eq_i res_at (Term.int_eval (1)) rfl), trivial⟩ ⟨hq.1, hq.2.1, (hq.2.2.sift fun y hy => Or.inr (N y hy)).mono (by decide) (by decide)⟩⟩
theorem main_1_1 : Claimed_1_1 := comes_1 fun _ _ _ _ _ _ h hF => ⟨h.1, hF⟩
theorem main_1_2 : Claimed_1_2 := comes_1 fun _ _ _ _ _ _ h hF => ⟨h.2.1, hF⟩
end Jvm.Pilot.@@N@@
namespace Jvm.Pilot.@@N@@
open Jvm Jvm.ClassFile Sem Op Lib Jvm.Free Jvm.Stand Jvm.Pilot.@@N@@.Jvm.D
/-! MADE BY PROGRAM (witnessworld.py) out of the Statement's table words and the real class files: 11 classes; the members and pool entries that the words name. The judged class is class 1, her method 1. -/
namespace start1
open Jvm.ClassFile
def u (s : String) : CpInfo := .utf8 (stringToUtf16 s)
/-- a pool by its gaps: so many unusable entries, then the entry; so many at the end -/
def gap : Nat → List CpInfo → List CpInfo
  | 0, r => r
  | n + 1, r => .unusable :: gap n r
def poolList (es : List (Nat × CpInfo)) (last : Nat) : List CpInfo := es.foldr (fun e r => gap e.1 (e.2 :: r)) (gap last [])
def pool (es : List (Nat × CpInfo)) (last : Nat) : Array CpInfo := ⟨poolList es last⟩
def fileOf (pool : Array CpInfo) (this : Nat) (attrs : Array Attribute := #[]) (ms : Array MethodInfo := #[]) (fl : Nat := 33) (sup : Nat := 0) (ifs : Array Nat := #[]) (fds : Array FieldInfo := #[]) : ClassFile where
  minorVersion := 0
  majorVersion := 65
  constantPool := pool
  accessFlags := fl
  thisClass := this
  superClass := sup
  interfaces := ifs
  fields := fds
  methods := ms
  attributes := attrs
def plain (name : String) (sup : Option ClassId) : Class where
  name := name
  kind := .ordinary
  loader := none
  accessFlags := 33
  super := sup
  interfaces := #[]
  cf := none
  fields := #[]
  methods := #[]
  instanceTypes := #[]
  staticTypes := #[]
  resolved := #[]
  callSites := []
  init := .initialized
  statics := none
  mirror := none

def pool0 : Array CpInfo := pool [(5, u "<init>"), (0, u "()V"), (1, .class_ 10), (1, u "java/lang/Object")] 113

def k0c0 : Code := { maxStack := 0, maxLocals := 1, code := object_method_1_code, exceptionTable := #[], attributes := #[] }
def k0m0 : Method := { name := "<init>", desc := "()V", sig := { parameters := [], returnType := none }, accessFlags := 1, code := some k0c0 }
/-- java/lang/Object -/
def k0 : Class := { plain "java/lang/Object" none with
  accessFlags := 33
  interfaces := #[]
  cf := some (fileOf pool0 8 #[] #[{ accessFlags := 1, nameIndex := 5, descriptorIndex := 6, attributes := #[] }] 33 0 #[] #[])
  fields := #[]
  methods := #[k0m0]
  instanceTypes := #[]
  staticTypes := #[]
  resolved := Array.replicate 124 none
  statics := none }

def pool1 : Array CpInfo := pool [(2, .class_ 4), (1, u "java/lang/Object"), (0, u "<init>"), (0, u "()V"), (0, .class_ 8), (0, u "FormatMarks"), (0, .methodref 7 10), (0, .nameAndType 5 11), (0, u "(III)V"), (0, .methodref 7 13), (0, .nameAndType 14 15), (0, u "mark"), (0, u "(IIII)I"), (0, .methodref 7 17), (0, .nameAndType 18 19), (0, u "sync"), (0, u "(II)I"), (0, .methodref 7 21), (0, .nameAndType 22 19), (0, u "render"), (0, .class_ 24), (0, u "FormatMarksL3"), (2, u "law"), (0, u "(IIIIII)Z")] 3

def k1m0 : Method := { name := "<init>", desc := "()V", sig := { parameters := [], returnType := none }, accessFlags := 1, code := none }
def k1c1 : Code := { maxStack := 5, maxLocals := 17, code := code, exceptionTable := #[], attributes := #[] }
def k1m1 : Method := { name := "law", desc := "(IIIIII)Z", sig := { parameters := [.int, .int, .int, .int, .int, .int], returnType := some .boolean }, accessFlags := 9, code := some k1c1 }
/-- FormatMarksL3 -/
def k1 : Class := { plain "FormatMarksL3" (some 0) with
  accessFlags := 49
  interfaces := #[]
  cf := some (fileOf pool1 23 #[] #[{ accessFlags := 1, nameIndex := 5, descriptorIndex := 6, attributes := #[] }, { accessFlags := 9, nameIndex := 27, descriptorIndex := 28, attributes := #[] }] 49 2 #[] #[])
  fields := #[]
  methods := #[k1m0, k1m1]
  instanceTypes := #[]
  staticTypes := #[]
  resolved := Array.replicate 32 none
  statics := none }

def pool2 : Array CpInfo := pool [(1, .methodref 2 3), (0, .class_ 4), (0, .nameAndType 5 6), (0, u "java/lang/Object"), (0, u "<init>"), (0, u "()V"), (0, .fieldref 8 9), (0, .class_ 10), (0, .nameAndType 11 12), (0, u "FormatMarks"), (0, u "stride"), (0, u "I"), (0, .fieldref 8 14), (0, .nameAndType 15 12), (0, u "typeCount"), (0, .fieldref 8 17), (0, .nameAndType 18 19), (0, u "opKind"), (0, u "[I"), (0, .fieldref 8 21), (0, .nameAndType 22 19), (0, u "opReplica"), (0, .fieldref 8 24), (0, .nameAndType 25 19), (0, u "opCounter"), (0, .fieldref 8 27), (0, .nameAndType 28 19), (0, u "opType"), (0, .fieldref 8 30), (0, .nameAndType 31 19), (0, u "opStart"), (0, .fieldref 8 33), (0, .nameAndType 34 19), (0, u "opEnd"), (0, .fieldref 8 36), (0, .nameAndType 37 19), (0, u "opValue"), (0, .fieldref 8 39), (0, .nameAndType 40 19), (0, u "opSlot"), (0, .fieldref 8 42), (0, .nameAndType 43 19), (0, u "pool"), (0, .fieldref 8 45), (0, .nameAndType 46 19), (0, u "clocks"), (0, .fieldref 8 48), (0, .nameAndType 49 19), (0, u "visibleSlots"), (0, .fieldref 8 51), (0, .nameAndType 52 53), (0, u "applied"), (0, u "[Z"), (0, .fieldref 8 55), (0, .nameAndType 56 53), (0, u "insertedAt"), (0, .fieldref 8 58), (0, .nameAndType 59 53), (0, u "erasedAt"), (0, .fieldref 8 61), (0, .nameAndType 62 19), (0, u "visList"), (0, .fieldref 8 64), (0, .nameAndType 65 19), (0, u "winner"), (0, .methodref 8 67), (0, .nameAndType 68 69), (0, u "clamp"), (0, u "(III)I"), (0, .fieldref 8 71), (0, .nameAndType 72 12), (0, u "slotCount"), (0, .fieldref 8 74), (0, .nameAndType 75 12), (0, u "opCapacity"), (0, .fieldref 8 77), (0, .nameAndType 78 12), (0, u "poolLimit"), (0, .fieldref 8 80), (0, .nameAndType 81 12), (0, u "opTotal"), (0, .fieldref 8 83), (0, .nameAndType 84 12), (0, u "poolCount"), (0, .methodref 8 86), (0, .nameAndType 87 88), (0, u "resetReplica"), (0, u "(I)V"), (3, u "(II)Z"), (0, .methodref 8 94), (0, .nameAndType 95 69), (0, u "createOp"), (0, .methodref 8 97), (0, .nameAndType 98 99), (0, u "publish"), (0, u "(II)V"), (3, .methodref 8 104), (0, .nameAndType 105 106), (0, u "slotAtPosition"), (0, u "(II)I"), (0, .methodref 8 108), (0, .nameAndType 109 110), (0, u "markAllowed"), (0, u "(IIII)Z"), (0, .methodref 8 112), (0, .nameAndType 113 69), (0, u "markEnd"), (0, .methodref 8 115), (0, .nameAndType 116 117), (0, u "setMarkFields"), (0, u "(IIII)V"), (3, u "(I)Z"), (0, .methodref 8 123), (0, .nameAndType 124 121), (0, u "validReplica"), (3, .methodref 8 129), (0, .nameAndType 130 92), (0, u "applyOp"), (0, .methodref 8 132), (0, .nameAndType 133 88), (0, u "appendEntry"), (0, .methodref 8 135), (0, .nameAndType 136 106), (0, u "appIdx"), (0, .methodref 8 138), (0, .nameAndType 139 121), (0, u "validSlot"), (0, .methodref 8 141), (0, .nameAndType 142 69), (0, u "renderType"), (3, .methodref 8 147), (0, .nameAndType 148 121), (0, u "validOp"), (6, .methodref 8 156), (0, .nameAndType 157 158), (0, u "hasRoom"), (0, u "()Z"), (3, .methodref 8 163), (0, .nameAndType 164 99), (0, u "applyMarkOp"), (9, .methodref 8 175), (0, .nameAndType 176 177), (0, u "offerWinner"), (0, u "(III)V"), (0, .methodref 8 179), (0, .nameAndType 180 69), (0, u "winIdx"), (0, .methodref 8 182), (0, .nameAndType 183 92), (0, u "greater"), (0, .methodref 8 185), (0, .nameAndType 186 106), (0, u "listIdx"), (3, .methodref 8 191), (0, .nameAndType 192 193), (0, u "typeBit"), (0, u "(I)I"), (0, u "REPLICAS"), (2, u "BOLD"), (1, u "ITALIC"), (1, u "LINK"), (1, u "COMMENT"), (1, u "BIT_BOLD"), (0, u "BIT_ITALIC"), (0, u "BIT_LINK"), (0, u "BIT_COMMENT"), (1, u "TARGET_SHIFT"), (0, u "K_INSERT"), (0, u "K_ERASE"), (0, u "K_ADD"), (0, u "K_REMOVE"), (0, u "HIDDEN"), (0, u "VISIBLE"), (0, u "ERASED"), (0, u "F_KIND"), (0, u "F_REPLICA"), (0, u "F_COUNTER"), (0, u "F_TYPE"), (0, u "F_START"), (0, u "F_END"), (1, u "F_VALUE"), (1, u "F_SLOT"), (7, u "mark"), (0, u "(IIII)I"), (3, u "sync"), (0, u "render")] 11

def k2c0 : Code := { maxStack := 5, maxLocals := 5, code := prog_1_method_1_code, exceptionTable := #[], attributes := #[] }
def k2m0 : Method := { name := "<init>", desc := "(III)V", sig := { parameters := [.int, .int, .int], returnType := none }, accessFlags := 1, code := some k2c0 }
def k2c1 : Code := { maxStack := 5, maxLocals := 12, code := prog_1_method_4_code, exceptionTable := #[], attributes := #[] }
def k2m1 : Method := { name := "mark", desc := "(IIII)I", sig := { parameters := [.int, .int, .int, .int], returnType := some .int }, accessFlags := 1, code := some k2c1 }
def k2c2 : Code := { maxStack := 4, maxLocals := 5, code := prog_1_method_8_code, exceptionTable := #[], attributes := #[] }
def k2m2 : Method := { name := "sync", desc := "(II)I", sig := { parameters := [.int, .int], returnType := some .int }, accessFlags := 1, code := some k2c2 }
def k2c3 : Code := { maxStack := 5, maxLocals := 5, code := prog_1_method_9_code, exceptionTable := #[], attributes := #[] }
def k2m3 : Method := { name := "render", desc := "(II)I", sig := { parameters := [.int, .int], returnType := some .int }, accessFlags := 1, code := some k2c3 }
def k2c4 : Code := { maxStack := 3, maxLocals := 5, code := prog_1_method_20_code, exceptionTable := #[], attributes := #[] }
def k2m4 : Method := { name := "markAllowed", desc := "(IIII)Z", sig := { parameters := [.int, .int, .int, .int], returnType := some .boolean }, accessFlags := 2, code := some k2c4 }
def k2c5 : Code := { maxStack := 2, maxLocals := 1, code := prog_1_method_21_code, exceptionTable := #[], attributes := #[] }
def k2m5 : Method := { name := "hasRoom", desc := "()Z", sig := { parameters := [], returnType := some .boolean }, accessFlags := 2, code := some k2c5 }
def k2c6 : Code := { maxStack := 2, maxLocals := 2, code := prog_1_method_22_code, exceptionTable := #[], attributes := #[] }
def k2m6 : Method := { name := "validReplica", desc := "(I)Z", sig := { parameters := [.int], returnType := some .boolean }, accessFlags := 2, code := some k2c6 }
def k2c7 : Code := { maxStack := 2, maxLocals := 2, code := prog_1_method_23_code, exceptionTable := #[], attributes := #[] }
def k2m7 : Method := { name := "validSlot", desc := "(I)Z", sig := { parameters := [.int], returnType := some .boolean }, accessFlags := 2, code := some k2c7 }
def k2c8 : Code := { maxStack := 2, maxLocals := 2, code := prog_1_method_24_code, exceptionTable := #[], attributes := #[] }
def k2m8 : Method := { name := "validOp", desc := "(I)Z", sig := { parameters := [.int], returnType := some .boolean }, accessFlags := 2, code := some k2c8 }
def k2c9 : Code := { maxStack := 5, maxLocals := 6, code := prog_1_method_26_code, exceptionTable := #[], attributes := #[] }
def k2m9 : Method := { name := "createOp", desc := "(III)I", sig := { parameters := [.int, .int, .int], returnType := some .int }, accessFlags := 2, code := some k2c9 }
def k2c10 : Code := { maxStack := 3, maxLocals := 5, code := prog_1_method_27_code, exceptionTable := #[], attributes := #[] }
def k2m10 : Method := { name := "setMarkFields", desc := "(IIII)V", sig := { parameters := [.int, .int, .int, .int], returnType := none }, accessFlags := 2, code := some k2c10 }
def k2c11 : Code := { maxStack := 3, maxLocals := 3, code := prog_1_method_28_code, exceptionTable := #[], attributes := #[] }
def k2m11 : Method := { name := "publish", desc := "(II)V", sig := { parameters := [.int, .int], returnType := none }, accessFlags := 2, code := some k2c11 }
def k2c12 : Code := { maxStack := 3, maxLocals := 3, code := prog_1_method_31_code, exceptionTable := #[], attributes := #[] }
def k2m12 : Method := { name := "greater", desc := "(II)Z", sig := { parameters := [.int, .int], returnType := some .boolean }, accessFlags := 2, code := some k2c12 }
def k2c13 : Code := { maxStack := 3, maxLocals := 2, code := prog_1_method_32_code, exceptionTable := #[], attributes := #[] }
def k2m13 : Method := { name := "appendEntry", desc := "(I)V", sig := { parameters := [.int], returnType := none }, accessFlags := 2, code := some k2c13 }
def k2c14 : Code := { maxStack := 4, maxLocals := 5, code := prog_1_method_34_code, exceptionTable := #[], attributes := #[] }
def k2m14 : Method := { name := "applyOp", desc := "(II)Z", sig := { parameters := [.int, .int], returnType := some .boolean }, accessFlags := 2, code := some k2c14 }
def k2c15 : Code := { maxStack := 4, maxLocals := 6, code := prog_1_method_36_code, exceptionTable := #[], attributes := #[] }
def k2m15 : Method := { name := "applyMarkOp", desc := "(II)V", sig := { parameters := [.int, .int], returnType := none }, accessFlags := 2, code := some k2c15 }
def k2c16 : Code := { maxStack := 4, maxLocals := 7, code := prog_1_method_37_code, exceptionTable := #[], attributes := #[] }
def k2m16 : Method := { name := "offerWinner", desc := "(III)V", sig := { parameters := [.int, .int, .int], returnType := none }, accessFlags := 2, code := some k2c16 }
def k2c17 : Code := { maxStack := 4, maxLocals := 4, code := prog_1_method_39_code, exceptionTable := #[], attributes := #[] }
def k2m17 : Method := { name := "resetReplica", desc := "(I)V", sig := { parameters := [.int], returnType := none }, accessFlags := 2, code := some k2c17 }
def k2c18 : Code := { maxStack := 4, maxLocals := 3, code := prog_1_method_40_code, exceptionTable := #[], attributes := #[] }
def k2m18 : Method := { name := "slotAtPosition", desc := "(II)I", sig := { parameters := [.int, .int], returnType := some .int }, accessFlags := 2, code := some k2c18 }
def k2c19 : Code := { maxStack := 3, maxLocals := 5, code := prog_1_method_44_code, exceptionTable := #[], attributes := #[] }
def k2m19 : Method := { name := "markEnd", desc := "(III)I", sig := { parameters := [.int, .int, .int], returnType := some .int }, accessFlags := 2, code := some k2c19 }
def k2c20 : Code := { maxStack := 5, maxLocals := 6, code := prog_1_method_45_code, exceptionTable := #[], attributes := #[] }
def k2m20 : Method := { name := "renderType", desc := "(III)I", sig := { parameters := [.int, .int, .int], returnType := some .int }, accessFlags := 2, code := some k2c20 }
def k2c21 : Code := { maxStack := 2, maxLocals := 2, code := prog_1_method_46_code, exceptionTable := #[], attributes := #[] }
def k2m21 : Method := { name := "typeBit", desc := "(I)I", sig := { parameters := [.int], returnType := some .int }, accessFlags := 2, code := some k2c21 }
def k2c22 : Code := { maxStack := 2, maxLocals := 3, code := prog_1_method_47_code, exceptionTable := #[], attributes := #[] }
def k2m22 : Method := { name := "appIdx", desc := "(II)I", sig := { parameters := [.int, .int], returnType := some .int }, accessFlags := 2, code := some k2c22 }
def k2c23 : Code := { maxStack := 2, maxLocals := 3, code := prog_1_method_49_code, exceptionTable := #[], attributes := #[] }
def k2m23 : Method := { name := "listIdx", desc := "(II)I", sig := { parameters := [.int, .int], returnType := some .int }, accessFlags := 2, code := some k2c23 }
def k2c24 : Code := { maxStack := 2, maxLocals := 4, code := prog_1_method_50_code, exceptionTable := #[], attributes := #[] }
def k2m24 : Method := { name := "winIdx", desc := "(III)I", sig := { parameters := [.int, .int, .int], returnType := some .int }, accessFlags := 2, code := some k2c24 }
def k2c25 : Code := { maxStack := 2, maxLocals := 4, code := prog_1_method_51_code, exceptionTable := #[], attributes := #[] }
def k2m25 : Method := { name := "clamp", desc := "(III)I", sig := { parameters := [.int, .int, .int], returnType := some .int }, accessFlags := 2, code := some k2c25 }
/-- FormatMarks -/
def k2 : Class := { plain "FormatMarks" (some 0) with
  accessFlags := 49
  interfaces := #[]
  cf := some (fileOf pool2 8 #[] #[{ accessFlags := 1, nameIndex := 5, descriptorIndex := 177, attributes := #[] }, { accessFlags := 1, nameIndex := 235, descriptorIndex := 236, attributes := #[] }, { accessFlags := 1, nameIndex := 240, descriptorIndex := 106, attributes := #[] }, { accessFlags := 1, nameIndex := 241, descriptorIndex := 106, attributes := #[] }, { accessFlags := 2, nameIndex := 109, descriptorIndex := 110, attributes := #[] }, { accessFlags := 2, nameIndex := 157, descriptorIndex := 158, attributes := #[] }, { accessFlags := 2, nameIndex := 124, descriptorIndex := 121, attributes := #[] }, { accessFlags := 2, nameIndex := 139, descriptorIndex := 121, attributes := #[] }, { accessFlags := 2, nameIndex := 148, descriptorIndex := 121, attributes := #[] }, { accessFlags := 2, nameIndex := 95, descriptorIndex := 69, attributes := #[] }, { accessFlags := 2, nameIndex := 116, descriptorIndex := 117, attributes := #[] }, { accessFlags := 2, nameIndex := 98, descriptorIndex := 99, attributes := #[] }, { accessFlags := 2, nameIndex := 183, descriptorIndex := 92, attributes := #[] }, { accessFlags := 2, nameIndex := 133, descriptorIndex := 88, attributes := #[] }, { accessFlags := 2, nameIndex := 130, descriptorIndex := 92, attributes := #[] }, { accessFlags := 2, nameIndex := 164, descriptorIndex := 99, attributes := #[] }, { accessFlags := 2, nameIndex := 176, descriptorIndex := 177, attributes := #[] }, { accessFlags := 2, nameIndex := 87, descriptorIndex := 88, attributes := #[] }, { accessFlags := 2, nameIndex := 105, descriptorIndex := 106, attributes := #[] }, { accessFlags := 2, nameIndex := 113, descriptorIndex := 69, attributes := #[] }, { accessFlags := 2, nameIndex := 142, descriptorIndex := 69, attributes := #[] }, { accessFlags := 2, nameIndex := 192, descriptorIndex := 193, attributes := #[] }, { accessFlags := 2, nameIndex := 136, descriptorIndex := 106, attributes := #[] }, { accessFlags := 2, nameIndex := 186, descriptorIndex := 106, attributes := #[] }, { accessFlags := 2, nameIndex := 180, descriptorIndex := 69, attributes := #[] }, { accessFlags := 2, nameIndex := 68, descriptorIndex := 69, attributes := #[] }] 49 2 #[] #[{ accessFlags := 25, nameIndex := 194, descriptorIndex := 12, attributes := #[] }, { accessFlags := 25, nameIndex := 197, descriptorIndex := 12, attributes := #[] }, { accessFlags := 25, nameIndex := 199, descriptorIndex := 12, attributes := #[] }, { accessFlags := 25, nameIndex := 201, descriptorIndex := 12, attributes := #[] }, { accessFlags := 25, nameIndex := 203, descriptorIndex := 12, attributes := #[] }, { accessFlags := 25, nameIndex := 205, descriptorIndex := 12, attributes := #[] }, { accessFlags := 25, nameIndex := 206, descriptorIndex := 12, attributes := #[] }, { accessFlags := 25, nameIndex := 207, descriptorIndex := 12, attributes := #[] }, { accessFlags := 25, nameIndex := 208, descriptorIndex := 12, attributes := #[] }, { accessFlags := 25, nameIndex := 210, descriptorIndex := 12, attributes := #[] }, { accessFlags := 25, nameIndex := 211, descriptorIndex := 12, attributes := #[] }, { accessFlags := 25, nameIndex := 212, descriptorIndex := 12, attributes := #[] }, { accessFlags := 25, nameIndex := 213, descriptorIndex := 12, attributes := #[] }, { accessFlags := 25, nameIndex := 214, descriptorIndex := 12, attributes := #[] }, { accessFlags := 25, nameIndex := 215, descriptorIndex := 12, attributes := #[] }, { accessFlags := 25, nameIndex := 216, descriptorIndex := 12, attributes := #[] }, { accessFlags := 25, nameIndex := 217, descriptorIndex := 12, attributes := #[] }, { accessFlags := 25, nameIndex := 218, descriptorIndex := 12, attributes := #[] }, { accessFlags := 25, nameIndex := 219, descriptorIndex := 12, attributes := #[] }, { accessFlags := 25, nameIndex := 220, descriptorIndex := 12, attributes := #[] }, { accessFlags := 25, nameIndex := 221, descriptorIndex := 12, attributes := #[] }, { accessFlags := 25, nameIndex := 222, descriptorIndex := 12, attributes := #[] }, { accessFlags := 25, nameIndex := 223, descriptorIndex := 12, attributes := #[] }, { accessFlags := 25, nameIndex := 225, descriptorIndex := 12, attributes := #[] }, { accessFlags := 25, nameIndex := 227, descriptorIndex := 12, attributes := #[] }, { accessFlags := 18, nameIndex := 11, descriptorIndex := 12, attributes := #[] }, { accessFlags := 18, nameIndex := 15, descriptorIndex := 12, attributes := #[] }, { accessFlags := 2, nameIndex := 72, descriptorIndex := 12, attributes := #[] }, { accessFlags := 2, nameIndex := 75, descriptorIndex := 12, attributes := #[] }, { accessFlags := 2, nameIndex := 78, descriptorIndex := 12, attributes := #[] }, { accessFlags := 2, nameIndex := 81, descriptorIndex := 12, attributes := #[] }, { accessFlags := 18, nameIndex := 18, descriptorIndex := 19, attributes := #[] }, { accessFlags := 18, nameIndex := 22, descriptorIndex := 19, attributes := #[] }, { accessFlags := 18, nameIndex := 25, descriptorIndex := 19, attributes := #[] }, { accessFlags := 18, nameIndex := 28, descriptorIndex := 19, attributes := #[] }, { accessFlags := 18, nameIndex := 31, descriptorIndex := 19, attributes := #[] }, { accessFlags := 18, nameIndex := 34, descriptorIndex := 19, attributes := #[] }, { accessFlags := 18, nameIndex := 37, descriptorIndex := 19, attributes := #[] }, { accessFlags := 18, nameIndex := 40, descriptorIndex := 19, attributes := #[] }, { accessFlags := 2, nameIndex := 84, descriptorIndex := 12, attributes := #[] }, { accessFlags := 18, nameIndex := 43, descriptorIndex := 19, attributes := #[] }, { accessFlags := 18, nameIndex := 46, descriptorIndex := 19, attributes := #[] }, { accessFlags := 18, nameIndex := 49, descriptorIndex := 19, attributes := #[] }, { accessFlags := 18, nameIndex := 52, descriptorIndex := 53, attributes := #[] }, { accessFlags := 18, nameIndex := 56, descriptorIndex := 53, attributes := #[] }, { accessFlags := 18, nameIndex := 59, descriptorIndex := 53, attributes := #[] }, { accessFlags := 18, nameIndex := 62, descriptorIndex := 19, attributes := #[] }, { accessFlags := 18, nameIndex := 65, descriptorIndex := 19, attributes := #[] }])
  fields := #[{ name := "REPLICAS", type := .int, accessFlags := 25, slot := 0, constantValue := 0 }, { name := "BOLD", type := .int, accessFlags := 25, slot := 1, constantValue := 0 }, { name := "ITALIC", type := .int, accessFlags := 25, slot := 2, constantValue := 0 }, { name := "LINK", type := .int, accessFlags := 25, slot := 3, constantValue := 0 }, { name := "COMMENT", type := .int, accessFlags := 25, slot := 4, constantValue := 0 }, { name := "BIT_BOLD", type := .int, accessFlags := 25, slot := 5, constantValue := 0 }, { name := "BIT_ITALIC", type := .int, accessFlags := 25, slot := 6, constantValue := 0 }, { name := "BIT_LINK", type := .int, accessFlags := 25, slot := 7, constantValue := 0 }, { name := "BIT_COMMENT", type := .int, accessFlags := 25, slot := 8, constantValue := 0 }, { name := "TARGET_SHIFT", type := .int, accessFlags := 25, slot := 9, constantValue := 0 }, { name := "K_INSERT", type := .int, accessFlags := 25, slot := 10, constantValue := 0 }, { name := "K_ERASE", type := .int, accessFlags := 25, slot := 11, constantValue := 0 }, { name := "K_ADD", type := .int, accessFlags := 25, slot := 12, constantValue := 0 }, { name := "K_REMOVE", type := .int, accessFlags := 25, slot := 13, constantValue := 0 }, { name := "HIDDEN", type := .int, accessFlags := 25, slot := 14, constantValue := 0 }, { name := "VISIBLE", type := .int, accessFlags := 25, slot := 15, constantValue := 0 }, { name := "ERASED", type := .int, accessFlags := 25, slot := 16, constantValue := 0 }, { name := "F_KIND", type := .int, accessFlags := 25, slot := 17, constantValue := 0 }, { name := "F_REPLICA", type := .int, accessFlags := 25, slot := 18, constantValue := 0 }, { name := "F_COUNTER", type := .int, accessFlags := 25, slot := 19, constantValue := 0 }, { name := "F_TYPE", type := .int, accessFlags := 25, slot := 20, constantValue := 0 }, { name := "F_START", type := .int, accessFlags := 25, slot := 21, constantValue := 0 }, { name := "F_END", type := .int, accessFlags := 25, slot := 22, constantValue := 0 }, { name := "F_VALUE", type := .int, accessFlags := 25, slot := 23, constantValue := 0 }, { name := "F_SLOT", type := .int, accessFlags := 25, slot := 24, constantValue := 0 }, { name := "stride", type := .int, accessFlags := 18, slot := 0, constantValue := 0 }, { name := "typeCount", type := .int, accessFlags := 18, slot := 1, constantValue := 0 }, { name := "slotCount", type := .int, accessFlags := 2, slot := 2, constantValue := 0 }, { name := "opCapacity", type := .int, accessFlags := 2, slot := 3, constantValue := 0 }, { name := "poolLimit", type := .int, accessFlags := 2, slot := 4, constantValue := 0 }, { name := "opTotal", type := .int, accessFlags := 2, slot := 5, constantValue := 0 }, { name := "opKind", type := (.array .int), accessFlags := 18, slot := 6, constantValue := 0 }, { name := "opReplica", type := (.array .int), accessFlags := 18, slot := 7, constantValue := 0 }, { name := "opCounter", type := (.array .int), accessFlags := 18, slot := 8, constantValue := 0 }, { name := "opType", type := (.array .int), accessFlags := 18, slot := 9, constantValue := 0 }, { name := "opStart", type := (.array .int), accessFlags := 18, slot := 10, constantValue := 0 }, { name := "opEnd", type := (.array .int), accessFlags := 18, slot := 11, constantValue := 0 }, { name := "opValue", type := (.array .int), accessFlags := 18, slot := 12, constantValue := 0 }, { name := "opSlot", type := (.array .int), accessFlags := 18, slot := 13, constantValue := 0 }, { name := "poolCount", type := .int, accessFlags := 2, slot := 14, constantValue := 0 }, { name := "pool", type := (.array .int), accessFlags := 18, slot := 15, constantValue := 0 }, { name := "clocks", type := (.array .int), accessFlags := 18, slot := 16, constantValue := 0 }, { name := "visibleSlots", type := (.array .int), accessFlags := 18, slot := 17, constantValue := 0 }, { name := "applied", type := (.array .boolean), accessFlags := 18, slot := 18, constantValue := 0 }, { name := "insertedAt", type := (.array .boolean), accessFlags := 18, slot := 19, constantValue := 0 }, { name := "erasedAt", type := (.array .boolean), accessFlags := 18, slot := 20, constantValue := 0 }, { name := "visList", type := (.array .int), accessFlags := 18, slot := 21, constantValue := 0 }, { name := "winner", type := (.array .int), accessFlags := 18, slot := 22, constantValue := 0 }]
  methods := #[k2m0, k2m1, k2m2, k2m3, k2m4, k2m5, k2m6, k2m7, k2m8, k2m9, k2m10, k2m11, k2m12, k2m13, k2m14, k2m15, k2m16, k2m17, k2m18, k2m19, k2m20, k2m21, k2m22, k2m23, k2m24, k2m25]
  instanceTypes := #[.int, .int, .int, .int, .int, .int, (.array .int), (.array .int), (.array .int), (.array .int), (.array .int), (.array .int), (.array .int), (.array .int), .int, (.array .int), (.array .int), (.array .int), (.array .boolean), (.array .boolean), (.array .boolean), (.array .int), (.array .int)]
  staticTypes := #[.int, .int, .int, .int, .int, .int, .int, .int, .int, .int, .int, .int, .int, .int, .int, .int, .int, .int, .int, .int, .int, .int, .int, .int, .int]
  resolved := Array.replicate 253 none
  statics := none }

def pool3 : Array CpInfo := pool [(1, u "java/lang/Cloneable"), (0, .class_ 1), (0, u "java/lang/Object"), (0, .class_ 3)] 3

/-- java/lang/Cloneable -/
def k3 : Class := { plain "java/lang/Cloneable" (some 0) with
  accessFlags := 1537
  interfaces := #[]
  cf := some (fileOf pool3 2 #[] #[] 1537 4 #[] #[])
  fields := #[]
  methods := #[]
  instanceTypes := #[]
  staticTypes := #[]
  resolved := Array.replicate 8 none
  statics := none }

def pool4 : Array CpInfo := pool [(1, u "java/io/Serializable"), (0, .class_ 1), (0, u "java/lang/Object"), (0, .class_ 3)] 3

/-- java/io/Serializable -/
def k4 : Class := { plain "java/io/Serializable" (some 0) with
  accessFlags := 1537
  interfaces := #[]
  cf := some (fileOf pool4 2 #[] #[] 1537 4 #[] #[])
  fields := #[]
  methods := #[]
  instanceTypes := #[]
  staticTypes := #[]
  resolved := Array.replicate 8 none
  statics := none }

/-- the primitive boolean -/
def k5 : Class := { plain "boolean" none with kind := .primitive 'Z', accessFlags := 0x411 }
/-- [Z -/
def k6 : Class := { plain "[Z" (some 0) with kind := .array 5 .boolean, interfaces := #[3, 4], accessFlags := 1041 }

/-- the primitive byte -/
def k7 : Class := { plain "byte" none with kind := .primitive 'B', accessFlags := 0x411 }
/-- [B -/
def k8 : Class := { plain "[B" (some 0) with kind := .array 7 .byte, interfaces := #[3, 4], accessFlags := 1041 }

/-- the primitive int -/
def k9 : Class := { plain "int" none with kind := .primitive 'I', accessFlags := 0x411 }
/-- [I -/
def k10 : Class := { plain "[I" (some 0) with kind := .array 9 .int, interfaces := #[3, 4], accessFlags := 1041 }

def heap : Heap := #[]
def classes : Array Class := #[k0, k1, k2, k3, k4, k5, k6, k7, k8, k9, k10]
def interned : List (Array UInt16 × Addr) := []
def slotsUsed : Nat := 0
def theMethod : MethodId := ⟨1, 1⟩
def args0 : Array Value := #[.int 5, .int 5, .int 5, .int 5, .int 5, .int 5]
def aboutOver (below : List Frame) : State where
  vm := { classes := classes, interned := interned.toArray }
  heap := heap
  slotsUsed := slotsUsed
  threads := #[{ frames := .invoking theMethod args0 :: below }]
def below0 : List Frame := [.native { method := ⟨0, 0⟩, args := #[] }]
def about1 : State := aboutOver below0
def p0 : Program := .bare "" "" ""
def e0 : Env := launch0.env 0 0 0
theorem w_frames : about1.frames = Frame.invoking theMethod args0 :: below0 := rfl
set_option maxRecDepth 65536 in
theorem w_args : argsFit about1.vm theMethod args0 = true := by decide +kernel
set_option maxRecDepth 65536 in
theorem w_heap : heapFits about1 = true := by decide +kernel
set_option maxRecDepth 65536 in
theorem w_runnable : about1.curStatus? = some .runnable := by decide +kernel
set_option maxRecDepth 65536 in
theorem w_alone : about1.alone = true := by decide +kernel
set_option maxRecDepth 65536 in
theorem w_named : about1.methodNamed? x = some theMethod := by decide +kernel
set_option maxRecDepth 65536 in
theorem w_hears : about1.hears theMethod below0 = true := by decide +kernel
set_option maxRecDepth 65536 in
theorem w_ripe : about1.ripe theMethod args0 below0 = true := by decide +kernel
theorem w_running : about1.status = .running := rfl
set_option maxRecDepth 65536 in
theorem w_room : about1.hasRoom e0.platform room_1 = true :=
  launch0.hasRoom_least _ room_1 (by decide +kernel) (by decide +kernel) (by decide +kernel) (by decide +kernel) (by decide +kernel) (by decide +kernel)
theorem allAtoms_all (ts : List Jvm.Cond) (a : Array Jvm.Value) (st : Jvm.State) : (allAtoms ts).before a st = ts.all (fun c => c.before a st) := by
  induction ts with
  | nil => rfl
  | cons c t ih =>
    show (Jvm.Cond.and c (allAtoms t)).before a st = _
    rw [Jvm.Cond.before_and, ih, List.all_cons]
def words1 : List Jvm.Cond := Jvm.Cond.code x code maxLocals ret :: tables_1
/-- a 'code' word, met by the world's own term for the bytes: nothing is compared byte by byte -/
theorem code_word {y : MethodName} {bytes : ByteArray} {mx : Nat} {rt : Option FieldType} {a : Array Value} {s : State} {m : MethodId} {meth : Method} {c : Code} (h1 : s.methodNamed? y = some m) (h2 : s.vm.method? m = some meth) (h3 : meth.code = some c) (h4 : c.code = bytes)
    (h5 : (c.maxLocals == mx && c.exceptionTable.isEmpty && decide (c.maxStack ≤ mostOperands) && decide (meth.sig.returnType = rt) && !meth.locks && decide (parseMethodDescriptor y.desc = some meth.sig)) = true) : (Jvm.Cond.code y bytes mx rt).before a s = true := by
  simp only [Bool.and_eq_true, beq_iff_eq, Bool.not_eq_true', decide_eq_true_eq] at h5
  obtain ⟨⟨⟨⟨⟨g1, g2⟩, g3⟩, g4⟩, g5⟩, g6⟩ := h5
  simp [Cond.before, Cond.holds, Cond.value, h1, h2, h3, h4, g1, g2, g3, g4, g5, g6]
def isCode : Jvm.Cond → Bool
  | .code _ _ _ _ => true
  | _ => false
theorem all_split {L : List Jvm.Cond} {P : Jvm.Cond → Bool} (h1 : L.all (fun c => isCode c || P c) = true) (h2 : ∀ c ∈ L.filter isCode, P c = true) : L.all P = true := by
  refine List.all_eq_true.mpr fun c hc => ?_
  have h := List.all_eq_true.mp h1 c hc
  rcases Bool.eq_false_or_eq_true (isCode c) with hi | hi
  · exact h2 c (List.mem_filter.mpr ⟨hc, hi⟩)
  · simpa [hi] using h
set_option maxRecDepth 65536 in
theorem w_c0 : (Jvm.Cond.code x code maxLocals ret).before args0 about1 = true := code_word (m := ⟨1, 1⟩) (meth := k1m1) (c := k1c1) (by decide +kernel) rfl rfl rfl (by decide +kernel)
set_option maxRecDepth 65536 in
theorem w_c1 : (Jvm.Cond.code ({ cls := "FormatMarks", name := "<init>", desc := "(III)V" } : Jvm.MethodName) prog_1_method_1_code (5 : Nat) (Option.none : Option Jvm.ClassFile.FieldType)).before args0 about1 = true := code_word (m := ⟨2, 0⟩) (meth := k2m0) (c := k2c0) (by decide +kernel) rfl rfl rfl (by decide +kernel)
set_option maxRecDepth 65536 in
theorem w_c2 : (Jvm.Cond.code ({ cls := "java/lang/Object", name := "<init>", desc := "()V" } : Jvm.MethodName) object_method_1_code (1 : Nat) (Option.none : Option Jvm.ClassFile.FieldType)).before args0 about1 = true := code_word (m := ⟨0, 0⟩) (meth := k0m0) (c := k0c0) (by decide +kernel) rfl rfl rfl (by decide +kernel)
set_option maxRecDepth 65536 in
theorem w_c3 : (Jvm.Cond.code ({ cls := "FormatMarks", name := "clamp", desc := "(III)I" } : Jvm.MethodName) prog_1_method_51_code (4 : Nat) (Option.some Jvm.ClassFile.FieldType.int)).before args0 about1 = true := code_word (m := ⟨2, 25⟩) (meth := k2m25) (c := k2c25) (by decide +kernel) rfl rfl rfl (by decide +kernel)
set_option maxRecDepth 65536 in
theorem w_c4 : (Jvm.Cond.code ({ cls := "FormatMarks", name := "resetReplica", desc := "(I)V" } : Jvm.MethodName) prog_1_method_39_code (4 : Nat) (Option.none : Option Jvm.ClassFile.FieldType)).before args0 about1 = true := code_word (m := ⟨2, 17⟩) (meth := k2m17) (c := k2c17) (by decide +kernel) rfl rfl rfl (by decide +kernel)
set_option maxRecDepth 65536 in
theorem w_c5 : (Jvm.Cond.code ({ cls := "FormatMarks", name := "listIdx", desc := "(II)I" } : Jvm.MethodName) prog_1_method_49_code (3 : Nat) (Option.some Jvm.ClassFile.FieldType.int)).before args0 about1 = true := code_word (m := ⟨2, 23⟩) (meth := k2m23) (c := k2c23) (by decide +kernel) rfl rfl rfl (by decide +kernel)
set_option maxRecDepth 65536 in
theorem w_c6 : (Jvm.Cond.code ({ cls := "FormatMarks", name := "mark", desc := "(IIII)I" } : Jvm.MethodName) prog_1_method_4_code (12 : Nat) (Option.some Jvm.ClassFile.FieldType.int)).before args0 about1 = true := code_word (m := ⟨2, 1⟩) (meth := k2m1) (c := k2c1) (by decide +kernel) rfl rfl rfl (by decide +kernel)
set_option maxRecDepth 65536 in
theorem w_c7 : (Jvm.Cond.code ({ cls := "FormatMarks", name := "markAllowed", desc := "(IIII)Z" } : Jvm.MethodName) prog_1_method_20_code (5 : Nat) (Option.some Jvm.ClassFile.FieldType.boolean)).before args0 about1 = true := code_word (m := ⟨2, 4⟩) (meth := k2m4) (c := k2c4) (by decide +kernel) rfl rfl rfl (by decide +kernel)
set_option maxRecDepth 65536 in
theorem w_c8 : (Jvm.Cond.code ({ cls := "FormatMarks", name := "validReplica", desc := "(I)Z" } : Jvm.MethodName) prog_1_method_22_code (2 : Nat) (Option.some Jvm.ClassFile.FieldType.boolean)).before args0 about1 = true := code_word (m := ⟨2, 6⟩) (meth := k2m6) (c := k2c6) (by decide +kernel) rfl rfl rfl (by decide +kernel)
set_option maxRecDepth 65536 in
theorem w_c9 : (Jvm.Cond.code ({ cls := "FormatMarks", name := "hasRoom", desc := "()Z" } : Jvm.MethodName) prog_1_method_21_code (1 : Nat) (Option.some Jvm.ClassFile.FieldType.boolean)).before args0 about1 = true := code_word (m := ⟨2, 5⟩) (meth := k2m5) (c := k2c5) (by decide +kernel) rfl rfl rfl (by decide +kernel)
set_option maxRecDepth 65536 in
theorem w_c10 : (Jvm.Cond.code ({ cls := "FormatMarks", name := "slotAtPosition", desc := "(II)I" } : Jvm.MethodName) prog_1_method_40_code (3 : Nat) (Option.some Jvm.ClassFile.FieldType.int)).before args0 about1 = true := code_word (m := ⟨2, 18⟩) (meth := k2m18) (c := k2c18) (by decide +kernel) rfl rfl rfl (by decide +kernel)
set_option maxRecDepth 65536 in
theorem w_c11 : (Jvm.Cond.code ({ cls := "FormatMarks", name := "markEnd", desc := "(III)I" } : Jvm.MethodName) prog_1_method_44_code (5 : Nat) (Option.some Jvm.ClassFile.FieldType.int)).before args0 about1 = true := code_word (m := ⟨2, 19⟩) (meth := k2m19) (c := k2c19) (by decide +kernel) rfl rfl rfl (by decide +kernel)
set_option maxRecDepth 65536 in
theorem w_c12 : (Jvm.Cond.code ({ cls := "FormatMarks", name := "createOp", desc := "(III)I" } : Jvm.MethodName) prog_1_method_26_code (6 : Nat) (Option.some Jvm.ClassFile.FieldType.int)).before args0 about1 = true := code_word (m := ⟨2, 9⟩) (meth := k2m9) (c := k2c9) (by decide +kernel) rfl rfl rfl (by decide +kernel)
set_option maxRecDepth 65536 in
theorem w_c13 : (Jvm.Cond.code ({ cls := "FormatMarks", name := "setMarkFields", desc := "(IIII)V" } : Jvm.MethodName) prog_1_method_27_code (5 : Nat) (Option.none : Option Jvm.ClassFile.FieldType)).before args0 about1 = true := code_word (m := ⟨2, 10⟩) (meth := k2m10) (c := k2c10) (by decide +kernel) rfl rfl rfl (by decide +kernel)
set_option maxRecDepth 65536 in
theorem w_c14 : (Jvm.Cond.code ({ cls := "FormatMarks", name := "publish", desc := "(II)V" } : Jvm.MethodName) prog_1_method_28_code (3 : Nat) (Option.none : Option Jvm.ClassFile.FieldType)).before args0 about1 = true := code_word (m := ⟨2, 11⟩) (meth := k2m11) (c := k2c11) (by decide +kernel) rfl rfl rfl (by decide +kernel)
set_option maxRecDepth 65536 in
theorem w_c15 : (Jvm.Cond.code ({ cls := "FormatMarks", name := "applyOp", desc := "(II)Z" } : Jvm.MethodName) prog_1_method_34_code (5 : Nat) (Option.some Jvm.ClassFile.FieldType.boolean)).before args0 about1 = true := code_word (m := ⟨2, 14⟩) (meth := k2m14) (c := k2c14) (by decide +kernel) rfl rfl rfl (by decide +kernel)
set_option maxRecDepth 65536 in
theorem w_c16 : (Jvm.Cond.code ({ cls := "FormatMarks", name := "validOp", desc := "(I)Z" } : Jvm.MethodName) prog_1_method_24_code (2 : Nat) (Option.some Jvm.ClassFile.FieldType.boolean)).before args0 about1 = true := code_word (m := ⟨2, 8⟩) (meth := k2m8) (c := k2c8) (by decide +kernel) rfl rfl rfl (by decide +kernel)
set_option maxRecDepth 65536 in
theorem w_c17 : (Jvm.Cond.code ({ cls := "FormatMarks", name := "appIdx", desc := "(II)I" } : Jvm.MethodName) prog_1_method_47_code (3 : Nat) (Option.some Jvm.ClassFile.FieldType.int)).before args0 about1 = true := code_word (m := ⟨2, 22⟩) (meth := k2m22) (c := k2c22) (by decide +kernel) rfl rfl rfl (by decide +kernel)
set_option maxRecDepth 65536 in
theorem w_c18 : (Jvm.Cond.code ({ cls := "FormatMarks", name := "applyMarkOp", desc := "(II)V" } : Jvm.MethodName) prog_1_method_36_code (6 : Nat) (Option.none : Option Jvm.ClassFile.FieldType)).before args0 about1 = true := code_word (m := ⟨2, 15⟩) (meth := k2m15) (c := k2c15) (by decide +kernel) rfl rfl rfl (by decide +kernel)
set_option maxRecDepth 65536 in
theorem w_c19 : (Jvm.Cond.code ({ cls := "FormatMarks", name := "offerWinner", desc := "(III)V" } : Jvm.MethodName) prog_1_method_37_code (7 : Nat) (Option.none : Option Jvm.ClassFile.FieldType)).before args0 about1 = true := code_word (m := ⟨2, 16⟩) (meth := k2m16) (c := k2c16) (by decide +kernel) rfl rfl rfl (by decide +kernel)
set_option maxRecDepth 65536 in
theorem w_c20 : (Jvm.Cond.code ({ cls := "FormatMarks", name := "winIdx", desc := "(III)I" } : Jvm.MethodName) prog_1_method_50_code (4 : Nat) (Option.some Jvm.ClassFile.FieldType.int)).before args0 about1 = true := code_word (m := ⟨2, 24⟩) (meth := k2m24) (c := k2c24) (by decide +kernel) rfl rfl rfl (by decide +kernel)
set_option maxRecDepth 65536 in
theorem w_c21 : (Jvm.Cond.code ({ cls := "FormatMarks", name := "appendEntry", desc := "(I)V" } : Jvm.MethodName) prog_1_method_32_code (2 : Nat) (Option.none : Option Jvm.ClassFile.FieldType)).before args0 about1 = true := code_word (m := ⟨2, 13⟩) (meth := k2m13) (c := k2c13) (by decide +kernel) rfl rfl rfl (by decide +kernel)
set_option maxRecDepth 65536 in
theorem w_c22 : (Jvm.Cond.code ({ cls := "FormatMarks", name := "sync", desc := "(II)I" } : Jvm.MethodName) prog_1_method_8_code (5 : Nat) (Option.some Jvm.ClassFile.FieldType.int)).before args0 about1 = true := code_word (m := ⟨2, 2⟩) (meth := k2m2) (c := k2c2) (by decide +kernel) rfl rfl rfl (by decide +kernel)
set_option maxRecDepth 65536 in
theorem w_c23 : (Jvm.Cond.code ({ cls := "FormatMarks", name := "render", desc := "(II)I" } : Jvm.MethodName) prog_1_method_9_code (5 : Nat) (Option.some Jvm.ClassFile.FieldType.int)).before args0 about1 = true := code_word (m := ⟨2, 3⟩) (meth := k2m3) (c := k2c3) (by decide +kernel) rfl rfl rfl (by decide +kernel)
set_option maxRecDepth 65536 in
theorem w_c24 : (Jvm.Cond.code ({ cls := "FormatMarks", name := "validSlot", desc := "(I)Z" } : Jvm.MethodName) prog_1_method_23_code (2 : Nat) (Option.some Jvm.ClassFile.FieldType.boolean)).before args0 about1 = true := code_word (m := ⟨2, 7⟩) (meth := k2m7) (c := k2c7) (by decide +kernel) rfl rfl rfl (by decide +kernel)
set_option maxRecDepth 65536 in
theorem w_c25 : (Jvm.Cond.code ({ cls := "FormatMarks", name := "renderType", desc := "(III)I" } : Jvm.MethodName) prog_1_method_45_code (6 : Nat) (Option.some Jvm.ClassFile.FieldType.int)).before args0 about1 = true := code_word (m := ⟨2, 20⟩) (meth := k2m20) (c := k2c20) (by decide +kernel) rfl rfl rfl (by decide +kernel)
set_option maxRecDepth 65536 in
theorem w_c26 : (Jvm.Cond.code ({ cls := "FormatMarks", name := "typeBit", desc := "(I)I" } : Jvm.MethodName) prog_1_method_46_code (2 : Nat) (Option.some Jvm.ClassFile.FieldType.int)).before args0 about1 = true := code_word (m := ⟨2, 21⟩) (meth := k2m21) (c := k2c21) (by decide +kernel) rfl rfl rfl (by decide +kernel)
set_option maxRecDepth 65536 in
theorem w_c27 : (Jvm.Cond.code ({ cls := "FormatMarks", name := "greater", desc := "(II)Z" } : Jvm.MethodName) prog_1_method_31_code (3 : Nat) (Option.some Jvm.ClassFile.FieldType.boolean)).before args0 about1 = true := code_word (m := ⟨2, 12⟩) (meth := k2m12) (c := k2c12) (by decide +kernel) rfl rfl rfl (by decide +kernel)
def codes1 : List Jvm.Cond := [Jvm.Cond.code x code maxLocals ret, Jvm.Cond.code ({ cls := "FormatMarks", name := "<init>", desc := "(III)V" } : Jvm.MethodName) prog_1_method_1_code (5 : Nat) (Option.none : Option Jvm.ClassFile.FieldType), Jvm.Cond.code ({ cls := "java/lang/Object", name := "<init>", desc := "()V" } : Jvm.MethodName) object_method_1_code (1 : Nat) (Option.none : Option Jvm.ClassFile.FieldType), Jvm.Cond.code ({ cls := "FormatMarks", name := "clamp", desc := "(III)I" } : Jvm.MethodName) prog_1_method_51_code (4 : Nat) (Option.some Jvm.ClassFile.FieldType.int), Jvm.Cond.code ({ cls := "FormatMarks", name := "resetReplica", desc := "(I)V" } : Jvm.MethodName) prog_1_method_39_code (4 : Nat) (Option.none : Option Jvm.ClassFile.FieldType), Jvm.Cond.code ({ cls := "FormatMarks", name := "listIdx", desc := "(II)I" } : Jvm.MethodName) prog_1_method_49_code (3 : Nat) (Option.some Jvm.ClassFile.FieldType.int), Jvm.Cond.code ({ cls := "FormatMarks", name := "mark", desc := "(IIII)I" } : Jvm.MethodName) prog_1_method_4_code (12 : Nat) (Option.some Jvm.ClassFile.FieldType.int), Jvm.Cond.code ({ cls := "FormatMarks", name := "markAllowed", desc := "(IIII)Z" } : Jvm.MethodName) prog_1_method_20_code (5 : Nat) (Option.some Jvm.ClassFile.FieldType.boolean), Jvm.Cond.code ({ cls := "FormatMarks", name := "validReplica", desc := "(I)Z" } : Jvm.MethodName) prog_1_method_22_code (2 : Nat) (Option.some Jvm.ClassFile.FieldType.boolean), Jvm.Cond.code ({ cls := "FormatMarks", name := "hasRoom", desc := "()Z" } : Jvm.MethodName) prog_1_method_21_code (1 : Nat) (Option.some Jvm.ClassFile.FieldType.boolean), Jvm.Cond.code ({ cls := "FormatMarks", name := "slotAtPosition", desc := "(II)I" } : Jvm.MethodName) prog_1_method_40_code (3 : Nat) (Option.some Jvm.ClassFile.FieldType.int), Jvm.Cond.code ({ cls := "FormatMarks", name := "markEnd", desc := "(III)I" } : Jvm.MethodName) prog_1_method_44_code (5 : Nat) (Option.some Jvm.ClassFile.FieldType.int), Jvm.Cond.code ({ cls := "FormatMarks", name := "createOp", desc := "(III)I" } : Jvm.MethodName) prog_1_method_26_code (6 : Nat) (Option.some Jvm.ClassFile.FieldType.int), Jvm.Cond.code ({ cls := "FormatMarks", name := "setMarkFields", desc := "(IIII)V" } : Jvm.MethodName) prog_1_method_27_code (5 : Nat) (Option.none : Option Jvm.ClassFile.FieldType), Jvm.Cond.code ({ cls := "FormatMarks", name := "publish", desc := "(II)V" } : Jvm.MethodName) prog_1_method_28_code (3 : Nat) (Option.none : Option Jvm.ClassFile.FieldType), Jvm.Cond.code ({ cls := "FormatMarks", name := "applyOp", desc := "(II)Z" } : Jvm.MethodName) prog_1_method_34_code (5 : Nat) (Option.some Jvm.ClassFile.FieldType.boolean), Jvm.Cond.code ({ cls := "FormatMarks", name := "validOp", desc := "(I)Z" } : Jvm.MethodName) prog_1_method_24_code (2 : Nat) (Option.some Jvm.ClassFile.FieldType.boolean), Jvm.Cond.code ({ cls := "FormatMarks", name := "appIdx", desc := "(II)I" } : Jvm.MethodName) prog_1_method_47_code (3 : Nat) (Option.some Jvm.ClassFile.FieldType.int), Jvm.Cond.code ({ cls := "FormatMarks", name := "applyMarkOp", desc := "(II)V" } : Jvm.MethodName) prog_1_method_36_code (6 : Nat) (Option.none : Option Jvm.ClassFile.FieldType), Jvm.Cond.code ({ cls := "FormatMarks", name := "offerWinner", desc := "(III)V" } : Jvm.MethodName) prog_1_method_37_code (7 : Nat) (Option.none : Option Jvm.ClassFile.FieldType), Jvm.Cond.code ({ cls := "FormatMarks", name := "winIdx", desc := "(III)I" } : Jvm.MethodName) prog_1_method_50_code (4 : Nat) (Option.some Jvm.ClassFile.FieldType.int), Jvm.Cond.code ({ cls := "FormatMarks", name := "appendEntry", desc := "(I)V" } : Jvm.MethodName) prog_1_method_32_code (2 : Nat) (Option.none : Option Jvm.ClassFile.FieldType), Jvm.Cond.code ({ cls := "FormatMarks", name := "sync", desc := "(II)I" } : Jvm.MethodName) prog_1_method_8_code (5 : Nat) (Option.some Jvm.ClassFile.FieldType.int), Jvm.Cond.code ({ cls := "FormatMarks", name := "render", desc := "(II)I" } : Jvm.MethodName) prog_1_method_9_code (5 : Nat) (Option.some Jvm.ClassFile.FieldType.int), Jvm.Cond.code ({ cls := "FormatMarks", name := "validSlot", desc := "(I)Z" } : Jvm.MethodName) prog_1_method_23_code (2 : Nat) (Option.some Jvm.ClassFile.FieldType.boolean), Jvm.Cond.code ({ cls := "FormatMarks", name := "renderType", desc := "(III)I" } : Jvm.MethodName) prog_1_method_45_code (6 : Nat) (Option.some Jvm.ClassFile.FieldType.int), Jvm.Cond.code ({ cls := "FormatMarks", name := "typeBit", desc := "(I)I" } : Jvm.MethodName) prog_1_method_46_code (2 : Nat) (Option.some Jvm.ClassFile.FieldType.int), Jvm.Cond.code ({ cls := "FormatMarks", name := "greater", desc := "(II)Z" } : Jvm.MethodName) prog_1_method_31_code (3 : Nat) (Option.some Jvm.ClassFile.FieldType.boolean)]
set_option maxRecDepth 65536 in
theorem codes_eq : words1.filter isCode = codes1 := rfl
theorem w_codes : ∀ c ∈ words1.filter isCode, c.before args0 about1 = true := by
  rw [codes_eq]
  intro c hc
  simp only [codes1, List.mem_cons, List.not_mem_nil, or_false] at hc
  rcases hc with rfl | rfl | rfl | rfl | rfl | rfl | rfl | rfl | rfl | rfl | rfl | rfl | rfl | rfl | rfl | rfl | rfl | rfl | rfl | rfl | rfl | rfl | rfl | rfl | rfl | rfl | rfl | rfl
  · exact w_c0
  · exact w_c1
  · exact w_c2
  · exact w_c3
  · exact w_c4
  · exact w_c5
  · exact w_c6
  · exact w_c7
  · exact w_c8
  · exact w_c9
  · exact w_c10
  · exact w_c11
  · exact w_c12
  · exact w_c13
  · exact w_c14
  · exact w_c15
  · exact w_c16
  · exact w_c17
  · exact w_c18
  · exact w_c19
  · exact w_c20
  · exact w_c21
  · exact w_c22
  · exact w_c23
  · exact w_c24
  · exact w_c25
  · exact w_c26
  · exact w_c27
set_option maxRecDepth 65536 in
theorem w_t1 : (words1.take 24).all (fun c => isCode c || c.before args0 about1) = true := by decide +kernel
set_option maxRecDepth 65536 in
theorem w_t2 : ((words1.drop 24).take 24).all (fun c => isCode c || c.before args0 about1) = true := by decide +kernel
set_option maxRecDepth 65536 in
theorem w_t3 : (((words1.drop 24).drop 24).take 24).all (fun c => isCode c || c.before args0 about1) = true := by decide +kernel
set_option maxRecDepth 65536 in
theorem w_t4 : ((((words1.drop 24).drop 24).drop 24).take 24).all (fun c => isCode c || c.before args0 about1) = true := by decide +kernel
set_option maxRecDepth 65536 in
theorem w_t5 : (((((words1.drop 24).drop 24).drop 24).drop 24).take 24).all (fun c => isCode c || c.before args0 about1) = true := by decide +kernel
set_option maxRecDepth 65536 in
theorem w_t6 : ((((((words1.drop 24).drop 24).drop 24).drop 24).drop 24).take 24).all (fun c => isCode c || c.before args0 about1) = true := by decide +kernel
set_option maxRecDepth 65536 in
theorem w_t7 : ((((((words1.drop 24).drop 24).drop 24).drop 24).drop 24).drop 24).all (fun c => isCode c || c.before args0 about1) = true := by decide +kernel
theorem w_tables : (allAtoms (Jvm.Cond.code x code maxLocals ret :: tables_1)).before args0 about1 = true := by
  rw [allAtoms_all]
  show words1.all (fun c => c.before args0 about1) = true
  refine all_split ?_ w_codes
  rw [← List.take_append_drop 24 words1, List.all_append, w_t1, ← List.take_append_drop 24 (words1.drop 24), List.all_append, w_t2, ← List.take_append_drop 24 ((words1.drop 24).drop 24), List.all_append, w_t3, ← List.take_append_drop 24 (((words1.drop 24).drop 24).drop 24), List.all_append, w_t4, ← List.take_append_drop 24 ((((words1.drop 24).drop 24).drop 24).drop 24), List.all_append, w_t5, ← List.take_append_drop 24 (((((words1.drop 24).drop 24).drop 24).drop 24).drop 24), List.all_append, w_t6, w_t7]
  rfl
set_option maxRecDepth 65536 in
theorem w_case : (Jvm.Cond.and given_1 narrow_1).before args0 about1 = true := by decide +kernel
theorem w_applies : (headSpec (Jvm.Cond.code x code maxLocals ret :: tables_1) room_1).applies x e0.platform about1 = true :=
  (Spec.applies_iff w_frames).mpr ⟨w_running, w_runnable, w_alone, w_named, w_hears, w_ripe, w_room, w_tables⟩
theorem atStart : AtStart classFile x code maxLocals ret World_1 tables_1 room_1 Calls_1 rest_1 Pre_1 launch0 p0 e0 about1 theMethod args0 below0 :=
  ⟨lists_1, trivial, launch0.admits_env _ _ _, launch0.least_env, fairChoices_fair.cas, fairChoices_fair.clock, w_frames, w_args, w_heap, w_applies, trivial, trivial, w_case⟩
end start1
theorem witness_1 : WitnessClaimed_1 := ⟨start1.p0, start1.e0, start1.about1, start1.theMethod, start1.args0, start1.below0, start1.atStart⟩
end Jvm.Pilot.@@N@@
