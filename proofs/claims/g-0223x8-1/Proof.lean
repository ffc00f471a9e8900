import JvmDerived
import JvmDerived.Pilot.@@N@@Statement
import JvmDerived.Pilot.@@N@@Code
set_option linter.unusedVariables false
set_option linter.unusedSimpArgs false
@@BLOCK:NumsL.lean.txt@@
namespace Jvm.LM
open Sem ClassFile Op Lib Jvm.Stand Jvm.Free Jvm.LawKit Jvm.RoadKit
/-! A small machine over plain data that mirrors the bytecode of one class and of a law over it. -/
abbrev Lv := List (Option Value)
abbrev St := (Nat → Nat → Int32) × (Nat → Nat → Int64)
abbrev Cd := List (Nat × Instr × Nat)
/-- name, descriptor, kind (0 int, 1 boolean, 2 long, 3+j the j-th array), final -/
abbrev Fe := String × String × Nat × Bool
/-- name, descriptor, number of arguments, return kind (0 none, 1 int, 2 boolean, 3 long), code, max_locals, room: frames, locals -/
abbrev Me := String × String × Nat × Nat × Cd × Nat × Nat × Nat
/-- class name, fields, arrays (kind, length), pool to field, pool to method, pool to constant, methods, pool index of Object's constructor -/
abbrev Cl := String × List (Nat × Fe) × List (Nat × Nat) × List (Nat × Nat) × List (Nat × Nat) × List (Nat × Value) × List (Nat × Me) × Nat
def Me.nm (m : Me) : String := m.1
def Me.ds (m : Me) : String := m.2.1
def Me.na (m : Me) : Nat := m.2.2.1
def Me.rt (m : Me) : Nat := m.2.2.2.1
def Me.cd (m : Me) : Cd := m.2.2.2.2.1
def Me.ml (m : Me) : Nat := m.2.2.2.2.2.1
def Me.rf (m : Me) : Nat := m.2.2.2.2.2.2.1
def Me.rl (m : Me) : Nat := m.2.2.2.2.2.2.2
def Cl.nm (P : Cl) : String := P.1
def Cl.fs (P : Cl) : List (Nat × Fe) := P.2.1
def Cl.al (P : Cl) : List (Nat × Nat) := P.2.2.1
def Cl.fx (P : Cl) : List (Nat × Nat) := P.2.2.2.1
def Cl.mx (P : Cl) : List (Nat × Nat) := P.2.2.2.2.1
def Cl.kx (P : Cl) : List (Nat × Value) := P.2.2.2.2.2.1
def Cl.ms (P : Cl) : List (Nat × Me) := P.2.2.2.2.2.2.1
def Cl.oi (P : Cl) : Nat := P.2.2.2.2.2.2.2
def gI (s : St) (c j : Nat) : Int32 := s.1 c j
def gL (s : St) (c j : Nat) : Int64 := s.2 c j
def sI (s : St) (c j : Nat) (v : Int32) : St := (fun a b => if a = c ∧ b = j then v else s.1 a b, s.2)
def sL (s : St) (c j : Nat) (v : Int64) : St := (s.1, fun a b => if a = c ∧ b = j then v else s.2 a b)
def s0 : St := (fun _ _ => 0, fun _ _ => 0)
def ix (i : Int32) : Nat := i.toNatClampNeg
abbrev inb (n : Nat) (i : Int32) : Prop := 0 ≤ i.toInt ∧ i.toInt < (n : Int)
def asc {α : Type} : List (Nat × α) → Nat → Option α
  | [], _ => none
  | (a, b) :: r, k => match Nat.beq a k with
    | true => some b
    | false => asc r k
def fetch : Cd → Nat → Option (Instr × Nat)
  | [], _ => none
  | (a, b) :: r, k => match Nat.beq a k with
    | true => some b
    | false => fetch r k
def ilen : Instr → Nat
  | .iload _ => 2 | .lload _ => 2 | .aload _ => 2 | .istore _ => 2 | .lstore _ => 2 | .astore _ => 2 | .bipush _ => 2 | .ldc _ => 2 | .newarray _ => 2
  | .sipush _ => 3 | .iinc _ _ => 3 | .goto _ => 3 | .ifCond _ _ => 3 | .if_icmp _ _ => 3 | .getfield _ => 3 | .putfield _ => 3
  | .invokevirtual _ => 3 | .invokespecial _ => 3 | .invokestatic _ => 3 | .new _ => 3 | .ldc2_w _ => 3
  | _ => 1
def isSw : Instr → Bool
  | .tableswitch _ _ _ _ => true
  | _ => false
def clr (ls : Lv) : Nat → Lv
  | 0 => ls
  | j + 1 => match ls[j]? with
    | some (some (.long _)) => ls.set j none
    | some (some (.double _)) => ls.set j none
    | _ => ls
/-- a store into the local variables: a long takes two -/
def stl (ls : Lv) (i : Nat) (v : Value) : Option Lv :=
  match v with
  | .long x => if i + 1 < ls.length then some (((clr ls i).set i (some (.long x))).set (i + 1) none) else none
  | w => if i < ls.length then some ((clr ls i).set i (some w)) else none
def br (cd : ClassFile.Cond) (x y : Int32) (a b : Nat) : Nat :=
  match cd with
  | .eq => if x = y then a else b
  | .ne => if x = y then b else a
  | .lt => if x < y then a else b
  | .ge => if x < y then b else a
  | .gt => if y < x then a else b
  | .le => if y < x then b else a
def jmp (pc : Nat) (o : Int) : Nat := ((pc : Int) + o).toNat
def qstep (i : Instr) (pc : Nat) (st : List Value) : Option (Nat × List Value) :=
  match i with
  | .iconst v => some (pc + 1, .int (Int32.ofInt v) :: st)
  | .bipush v => some (pc + 2, .int (Int8.ofInt v).toInt32 :: st)
  | .sipush v => some (pc + 3, .int (Int16.ofInt v).toInt32 :: st)
  | .lconst k => some (pc + 1, .long (Int64.ofNat k) :: st)
  | .iadd => match st with | .int y :: .int x :: r => some (pc + 1, .int (x + y) :: r) | _ => none
  | .isub => match st with | .int y :: .int x :: r => some (pc + 1, .int (x - y) :: r) | _ => none
  | .imul => match st with | .int y :: .int x :: r => some (pc + 1, .int (x * y) :: r) | _ => none
  | .iand => match st with | .int y :: .int x :: r => some (pc + 1, .int (x &&& y) :: r) | _ => none
  | .ior => match st with | .int y :: .int x :: r => some (pc + 1, .int (x ||| y) :: r) | _ => none
  | .ixor => match st with | .int y :: .int x :: r => some (pc + 1, .int (x ^^^ y) :: r) | _ => none
  | .ishl => match st with | .int y :: .int x :: r => some (pc + 1, .int (x <<< (y &&& 31)) :: r) | _ => none
  | .ishr => match st with | .int y :: .int x :: r => some (pc + 1, .int (x >>> (y &&& 31)) :: r) | _ => none
  | .iushr => match st with | .int y :: .int x :: r => some (pc + 1, .int (XT.ushr x y) :: r) | _ => none
  | .idiv => match st with | .int y :: .int x :: r => if y = 0 then none else some (pc + 1, .int (x / y) :: r) | _ => none
  | .irem => match st with | .int y :: .int x :: r => if y = 0 then none else some (pc + 1, .int (x % y) :: r) | _ => none
  | .ineg => match st with | .int x :: r => some (pc + 1, .int (-x) :: r) | _ => none
  | .ladd => match st with | .long y :: .long x :: r => some (pc + 1, .long (x + y) :: r) | _ => none
  | .lsub => match st with | .long y :: .long x :: r => some (pc + 1, .long (x - y) :: r) | _ => none
  | .lmul => match st with | .long y :: .long x :: r => some (pc + 1, .long (x * y) :: r) | _ => none
  | .land => match st with | .long y :: .long x :: r => some (pc + 1, .long (x &&& y) :: r) | _ => none
  | .lor => match st with | .long y :: .long x :: r => some (pc + 1, .long (x ||| y) :: r) | _ => none
  | .lxor => match st with | .long y :: .long x :: r => some (pc + 1, .long (x ^^^ y) :: r) | _ => none
  | .lshl => match st with | .int y :: .long x :: r => some (pc + 1, .long (x <<< (y.toInt64 &&& 63)) :: r) | _ => none
  | .lshr => match st with | .int y :: .long x :: r => some (pc + 1, .long (x >>> (y.toInt64 &&& 63)) :: r) | _ => none
  | .lushr => match st with | .int y :: .long x :: r => some (pc + 1, .long (XT.ushrL x y) :: r) | _ => none
  | .ldiv => match st with | .long y :: .long x :: r => if y = 0 then none else some (pc + 1, .long (x / y) :: r) | _ => none
  | .lneg => match st with | .long x :: r => some (pc + 1, .long (-x) :: r) | _ => none
  | .lcmp => match st with | .long y :: .long x :: r => some (pc + 1, .int (XT.cmpL x y) :: r) | _ => none
  | .i2l => match st with | .int x :: r => some (pc + 1, .long x.toInt64 :: r) | _ => none
  | .l2i => match st with | .long x :: r => some (pc + 1, .int x.toInt32 :: r) | _ => none
  | .dup => match st with | .int x :: r => some (pc + 1, .int x :: .int x :: r) | .ref x :: r => some (pc + 1, .ref x :: .ref x :: r) | _ => none
  | .pop => match st with | .int _ :: r => some (pc + 1, r) | .ref _ :: r => some (pc + 1, r) | _ => none
  | .goto o => if 0 ≤ (pc : Int) + o then some (jmp pc o, st) else none
  | .ifCond cd o => match st with | .int x :: r => if 0 ≤ (pc : Int) + o then some (br cd x 0 (jmp pc o) (pc + 3), r) else none | _ => none
  | .if_icmp cd o => match st with | .int y :: .int x :: r => if 0 ≤ (pc : Int) + o then some (br cd x y (jmp pc o) (pc + 3), r) else none | _ => none
  | .tableswitch d lo hi offs => match st with
    | .int x :: r => if x.toInt < lo ∨ x.toInt > hi then (if 0 ≤ (pc : Int) + d then some (jmp pc d, r) else none)
      else (match offs[(x.toInt - lo).toNat]? with | some o => if 0 ≤ (pc : Int) + o then some (jmp pc o, r) else none | none => none)
    | _ => none
  | _ => none
def pstep (i : Instr) (pc : Nat) (ls : Lv) (st : List Value) : Option (Nat × Lv × List Value) :=
  match i with
  | .iload_n k => match ls[k.val]? with | some (some (.int v)) => some (pc + 1, ls, .int v :: st) | _ => none
  | .iload k => match ls[k]? with | some (some (.int v)) => some (pc + 2, ls, .int v :: st) | _ => none
  | .lload_n k => match ls[k.val]? with | some (some (.long v)) => some (pc + 1, ls, .long v :: st) | _ => none
  | .lload k => match ls[k]? with | some (some (.long v)) => some (pc + 2, ls, .long v :: st) | _ => none
  | .aload_n k => match ls[k.val]? with | some (some (.ref v)) => some (pc + 1, ls, .ref v :: st) | _ => none
  | .aload k => match ls[k]? with | some (some (.ref v)) => some (pc + 2, ls, .ref v :: st) | _ => none
  | .istore_n k => match st with | .int v :: r => (match stl ls k.val (.int v) with | some l => some (pc + 1, l, r) | none => none) | _ => none
  | .istore k => match st with | .int v :: r => (match stl ls k (.int v) with | some l => some (pc + 2, l, r) | none => none) | _ => none
  | .lstore_n k => match st with | .long v :: r => (match stl ls k.val (.long v) with | some l => some (pc + 1, l, r) | none => none) | _ => none
  | .lstore k => match st with | .long v :: r => (match stl ls k (.long v) with | some l => some (pc + 2, l, r) | none => none) | _ => none
  | .astore_n k => match st with | .ref v :: r => (match stl ls k.val (.ref v) with | some l => some (pc + 1, l, r) | none => none) | _ => none
  | .astore k => match st with | .ref v :: r => (match stl ls k (.ref v) with | some l => some (pc + 2, l, r) | none => none) | _ => none
  | .iinc k d => match ls[k]? with | some (some (.int v)) => (match stl ls k (.int (v + Int32.ofInt d)) with | some l => some (pc + 3, l, st) | none => none) | _ => none
  | i => match qstep i pc st with | some (pc', st') => some (pc', ls, st') | none => none
/-- how the machine's references stand in the heap -/
def va (ρ : Nat → Nat) : Value → Value
  | .ref c => .ref (ρ c)
  | v => v
def WF (L : Array Slot) : Prop :=
  (∀ (k : Nat) (v : Value), L[k]? = some (Slot.val v) → v.category = 2 → L[k + 1]? = some .second) ∧
  (∀ k : Nat, L[k + 1]? = some Slot.second → ∃ v : Value, L[k]? = some (Slot.val v) ∧ v.category = 2) ∧ L[0]? ≠ some Slot.second
def LR (ρ : Nat → Nat) (ls : Lv) (L : Array Slot) : Prop :=
  L.size = ls.length ∧ (∀ (k : Nat) (v : Value), ls[k]? = some (some v) → L[k]? = some (Slot.val (va ρ v))) ∧ WF L
end Jvm.LM

namespace Jvm.LM
open Sem ClassFile Op Lib Jvm.Stand Jvm.Free Jvm.LawKit Jvm.RoadKit
/-! the local variables -/
def upd (f : Nat → Option Slot) (i : Nat) (x : Slot) : Nat → Option Slot := fun k => if k = i then some x else f k
def WFf (f : Nat → Option Slot) : Prop :=
  (∀ k v, f k = some (.val v) → v.category = 2 → f (k + 1) = some .second) ∧
  (∀ k, f (k + 1) = some .second → ∃ v, f k = some (.val v) ∧ v.category = 2) ∧ f 0 ≠ some .second
def clearF (f : Nat → Option Slot) (i : Nat) : Nat → Option Slot :=
  match f i with
  | some .second => upd (upd f (i - 1) .unset) i .unset
  | some (.val old) => if old.category = 2 then upd (upd f (i + 1) .unset) i .unset else upd f i .unset
  | _ => f
theorem clearF_cases (f : Nat → Option Slot) (i : Nat) : (f i = some .second ∧ clearF f i = upd (upd f (i - 1) .unset) i .unset) ∨ (∃ old, f i = some (.val old) ∧ old.category = 2 ∧ clearF f i = upd (upd f (i + 1) .unset) i .unset) ∨
    (∃ old, f i = some (.val old) ∧ old.category ≠ 2 ∧ clearF f i = upd f i .unset) ∨ ((f i = some .unset ∨ f i = none) ∧ clearF f i = f) := by
  cases h : f i with
  | none => exact Or.inr (Or.inr (Or.inr ⟨Or.inr rfl, by simp only [clearF, h]⟩))
  | some x =>
    cases x with
    | unset => exact Or.inr (Or.inr (Or.inr ⟨Or.inl rfl, by simp only [clearF, h]⟩))
    | second => exact Or.inl ⟨rfl, by simp only [clearF, h]⟩
    | val old =>
      by_cases hc : old.category = 2
      · exact Or.inr (Or.inl ⟨old, rfl, hc, by simp only [clearF, h]; rw [if_pos hc]⟩)
      · exact Or.inr (Or.inr (Or.inl ⟨old, rfl, hc, by simp only [clearF, h]; rw [if_neg hc]⟩))
theorem wff_clear {f : Nat → Option Slot} (h : WFf f) (i : Nat) : WFf (clearF f i) := by
  obtain ⟨h1, h2, h3⟩ := h
  unfold clearF
  split
  · rename_i e
    cases i with
    | zero => exact absurd e h3
    | succ j =>
      refine ⟨fun k v hk hc => ?_, fun k hk => ?_, ?_⟩
      · simp only [upd, Nat.add_sub_cancel] at hk ⊢
        have := h1 k v
        by_cases a : k = j + 1
        · simp [a] at hk
        · by_cases b : k = j
          · simp [b] at hk
          · have c : k + 1 ≠ j + 1 := by omega
            simp only [a, b, if_false] at hk
            by_cases d : k + 1 = j
            · have := h1 k v hk hc
              obtain ⟨w, hw, hw2⟩ := h2 j e
              rw [d, hw] at this; cases this
            · simp [c, d, b, h1 k v hk hc]
      · simp only [upd, Nat.add_sub_cancel] at hk ⊢
        by_cases a : k = j
        · simp [a] at hk
        · by_cases b : k + 1 = j
          · simp [b] at hk
          · simp only [show ¬ (k + 1 = j + 1) by omega, b, if_false] at hk
            obtain ⟨w, hw, hw2⟩ := h2 k hk
            by_cases d : k = j + 1
            · rw [d, e] at hw; cases hw
            · exact ⟨w, by simp [d, a, hw], hw2⟩
      · simp only [upd, Nat.add_sub_cancel]
        by_cases b : 0 = j
        · simp [← b]
        · simp [b, h3]
  · rename_i old e
    split
    · rename_i hc2
      have e2 := h1 i old e hc2
      refine ⟨fun k v hk hc => ?_, fun k hk => ?_, ?_⟩
      · simp only [upd] at hk ⊢
        by_cases a : k = i
        · simp [a] at hk
        · by_cases b : k = i + 1
          · simp [b] at hk
          · simp only [a, b, if_false] at hk
            have q := h1 k v hk hc
            by_cases d : k + 1 = i
            · rw [d, e] at q; cases q
            · simp [d, a, show ¬ (k + 1 = i + 1) by omega, q]
      · simp only [upd] at hk ⊢
        by_cases a : k + 1 = i
        · simp [a] at hk
        · by_cases b : k = i
          · simp [b] at hk
          · simp only [a, show ¬ (k + 1 = i + 1) by omega, if_false] at hk
            obtain ⟨w, hw, hw2⟩ := h2 k hk
            by_cases d : k = i + 1
            · rw [d, e2] at hw; cases hw
            · exact ⟨w, by simp [d, b, hw], hw2⟩
      · simp only [upd]
        by_cases b : 0 = i
        · simp [← b]
        · simp [b, h3]
    · rename_i hc2
      refine ⟨fun k v hk hc => ?_, fun k hk => ?_, ?_⟩
      · simp only [upd] at hk ⊢
        by_cases a : k = i
        · simp [a] at hk
        · simp only [a, if_false] at hk
          have q := h1 k v hk hc
          by_cases d : k + 1 = i
          · rw [d, e] at q; cases q
          · simp [d, q]
      · simp only [upd] at hk ⊢
        by_cases a : k + 1 = i
        · simp [a] at hk
        · simp only [a, if_false] at hk
          obtain ⟨w, hw, hw2⟩ := h2 k hk
          by_cases d : k = i
          · rw [d, e] at hw; cases hw; exact absurd hw2 hc2
          · exact ⟨w, by simp [d, hw], hw2⟩
      · simp only [upd]
        by_cases b : 0 = i
        · simp [← b]
        · simp [b, h3]
  · exact ⟨h1, h2, h3⟩
theorem wff_one {f : Nat → Option Slot} (h : WFf f) {i : Nat} (e : f i = some .unset) {v : Value} (hv : v.category ≠ 2) : WFf (upd f i (.val v)) := by
  obtain ⟨h1, h2, h3⟩ := h
  refine ⟨fun k w hk hc => ?_, fun k hk => ?_, ?_⟩
  · simp only [upd] at hk ⊢
    by_cases a : k = i
    · simp only [a, if_true, Option.some.injEq, Slot.val.injEq] at hk; subst hk; exact absurd hc hv
    · simp only [a, if_false] at hk
      have q := h1 k w hk hc
      by_cases d : k + 1 = i
      · rw [d, e] at q; cases q
      · simp [d, q]
  · simp only [upd] at hk ⊢
    by_cases a : k + 1 = i
    · simp [a] at hk
    · simp only [a, if_false] at hk
      obtain ⟨w, hw, hw2⟩ := h2 k hk
      by_cases d : k = i
      · rw [d, e] at hw; cases hw
      · exact ⟨w, by simp [d, hw], hw2⟩
  · simp only [upd]
    by_cases b : 0 = i
    · simp [← b]
    · simp [b, h3]
theorem wff_two {f : Nat → Option Slot} (h : WFf f) {i : Nat} (e : f i = some .unset) (e' : f (i + 1) = some .unset) {v : Value} (hv : v.category = 2) : WFf (upd (upd f i (.val v)) (i + 1) .second) := by
  obtain ⟨h1, h2, h3⟩ := h
  refine ⟨fun k w hk hc => ?_, fun k hk => ?_, ?_⟩
  · simp only [upd] at hk ⊢
    by_cases a : k = i + 1
    · simp [a] at hk
    · by_cases b : k = i
      · simp [b]
      · simp only [a, b, if_false] at hk
        have q := h1 k w hk hc
        by_cases d : k + 1 = i
        · rw [d, e] at q; cases q
        · simp [d, show ¬ (k + 1 = i + 1) by omega, q]
  · simp only [upd] at hk ⊢
    by_cases a : k = i
    · exact ⟨v, by simp [a], hv⟩
    · by_cases b : k + 1 = i
      · simp [b] at hk
      · simp only [show ¬ (k + 1 = i + 1) by omega, b, if_false] at hk
        obtain ⟨w, hw, hw2⟩ := h2 k hk
        by_cases d : k = i + 1
        · rw [d, e'] at hw; cases hw
        · exact ⟨w, by simp [d, a, hw], hw2⟩
  · simp only [upd]
    by_cases b : 0 = i
    · simp [← b]
    · simp [b, h3]
theorem gset (L : Array Slot) {i : Nat} (hi : i < L.size) (x : Slot) : (fun k => (L.setIfInBounds i x)[k]?) = upd (fun k => L[k]?) i x := by
  funext k
  simp only [upd, Array.getElem?_setIfInBounds]
  by_cases a : i = k
  · subst a; simp [hi]
  · simp [a, show ¬ k = i from fun h => a h.symm]
theorem sl_eq (L : Array Slot) (i : Nat) (v : Value) : storeLocals L i v = (L[i]?).bind (fun x => match x with
    | .second => (setAt L (i - 1) .unset).bind (fun l => storeSelf l i v)
    | .val old => if old.category = 2 then (setAt L (i + 1) .unset).bind (fun l => storeSelf l i v) else storeSelf L i v
    | .unset => storeSelf L i v) := rfl
theorem ss_eq (L : Array Slot) (i : Nat) (v : Value) : storeSelf L i v = (setAt L i (.val v)).bind (fun l => if v.category = 2 then (l[i + 1]?).bind (fun x => match x with
    | .val old => if old.category = 2 then (setAt l (i + 2) .unset).bind (fun l' => setAt l' (i + 1) .second) else setAt l (i + 1) .second
    | _ => setAt l (i + 1) .second) else some l) := rfl
theorem sa_eq {L : Array Slot} {i : Nat} (hi : i < L.size) (x : Slot) : setAt L i x = some (L.setIfInBounds i x) := if_pos hi
theorem upd_upd (f : Nat → Option Slot) (i : Nat) (x y : Slot) : upd (upd f i x) i y = upd f i y := by
  funext k; simp only [upd]; split <;> rfl
/-- what a store clears first -/
theorem clear_ok {L : Array Slot} (hW : WF L) {i : Nat} (hi : i < L.size) (v : Value) : ∃ L1, storeLocals L i v = storeSelf L1 i v ∧ L1.size = L.size ∧ upd (fun k => L1[k]?) i .unset = upd (clearF (fun k => L[k]?) i) i .unset := by
  have hh : WFf (fun k => L[k]?) := hW
  obtain ⟨sl, hsl⟩ : ∃ sl, L[i]? = some sl := ⟨L[i], Array.getElem?_eq_getElem hi⟩
  rw [sl_eq, hsl, Option.bind_some]
  cases sl with
  | unset => exact ⟨L, rfl, rfl, by simp only [clearF, hsl]⟩
  | second =>
    refine ⟨L.setIfInBounds (i - 1) .unset, ?_, by simp, ?_⟩
    · show (setAt L (i - 1) .unset).bind _ = _
      rw [sa_eq (by omega)]; rfl
    · rw [gset _ (by omega)]; simp only [clearF, hsl, upd_upd]
  | val old =>
    by_cases hc : old.category = 2
    · have h2 := hh.1 i old hsl hc
      have hlt : i + 1 < L.size := (Array.getElem?_eq_some_iff.mp h2).1
      refine ⟨L.setIfInBounds (i + 1) .unset, ?_, by simp, ?_⟩
      · show (if old.category = 2 then _ else _) = _
        rw [if_pos hc, sa_eq hlt]; rfl
      · rw [gset _ hlt]; simp only [clearF, hsl, hc, if_true, upd_upd]
    · refine ⟨L, ?_, rfl, ?_⟩
      · show (if old.category = 2 then _ else _) = _
        rw [if_neg hc]
      · simp only [clearF, hsl, hc, if_false, upd_upd]
theorem clearF_at {f : Nat → Option Slot} {i : Nat} (hi : f i ≠ none) : clearF f i i = some .unset := by
  rcases clearF_cases f i with ⟨h1, h2⟩ | ⟨old, h1, h3, h2⟩ | ⟨old, h1, h3, h2⟩ | ⟨h1 | h1, h2⟩
  · rw [h2]; simp [upd]
  · rw [h2]; simp [upd]
  · rw [h2]; simp [upd]
  · rw [h2]; exact h1
  · exact absurd h1 hi
theorem clearF_self {f : Nat → Option Slot} {i : Nat} (hi : f i ≠ none) : upd (clearF f i) i .unset = clearF f i := by
  funext k; simp only [upd]; split
  · rename_i e; rw [e]; exact (clearF_at hi).symm
  · rfl
/-- the other variables: kept, or they held (a part of) a long -/
theorem clearF_keep {f : Nat → Option Slot} (h : WFf f) {i k : Nat} {w : Value} (hk : k ≠ i) (e : f k = some (.val w)) (hw : k + 1 = i → w.category ≠ 2) : clearF f i k = some (.val w) := by
  rcases clearF_cases f i with ⟨e2, h2⟩ | ⟨old, e2, hc, h2⟩ | ⟨old, e2, hc, h2⟩ | ⟨-, h2⟩
  · rw [h2]
    cases i with
    | zero => exact absurd e2 h.2.2
    | succ j =>
      simp only [upd, Nat.add_sub_cancel, hk, if_false]
      split
      · rename_i hj; subst hj
        obtain ⟨v, hv, hv2⟩ := h.2.1 k e2
        rw [e] at hv; cases hv; exact absurd hv2 (hw rfl)
      · exact e
  · rw [h2]
    have q := h.1 i old e2 hc
    simp only [upd, hk, if_false]
    split
    · rename_i hj; rw [hj, q] at e; cases e
    · exact e
  · rw [h2]; simp [upd, hk, e]
  · rw [h2]; exact e
theorem store_one {L : Array Slot} (hW : WF L) {i : Nat} (hi : i < L.size) {v : Value} (hv : v.category ≠ 2) :
    ∃ L', storeLocals L i v = some L' ∧ L'.size = L.size ∧ WF L' ∧ (fun k => L'[k]?) = upd (clearF (fun k => L[k]?) i) i (.val v) := by
  obtain ⟨L1, h1, h2, h3⟩ := clear_ok hW hi v
  have hne : (fun k => L[k]?) i ≠ none := by simp; omega
  have hi1 : i < L1.size := by omega
  refine ⟨L1.setIfInBounds i (.val v), ?_, by simp [h2], ?_, ?_⟩
  · rw [h1, ss_eq, sa_eq hi1, Option.bind_some, if_neg hv]
  · have q : (fun k => (L1.setIfInBounds i (.val v))[k]?) = upd (clearF (fun k => L[k]?) i) i (.val v) := by
      rw [gset _ hi1, ← upd_upd _ i .unset, h3, upd_upd]
    have w : WFf (fun k => (L1.setIfInBounds i (.val v))[k]?) := by
      rw [q]; exact wff_one (wff_clear hW i) (clearF_at hne) hv
    exact w
  · rw [gset _ hi1, ← upd_upd _ i .unset, h3, upd_upd]
theorem store_two {L : Array Slot} (hW : WF L) {i : Nat} (hi : i + 1 < L.size) {v : Value} (hv : v.category = 2) :
    ∃ L', storeLocals L i v = some L' ∧ L'.size = L.size ∧ WF L' ∧ (fun k => L'[k]?) = upd (upd (clearF (clearF (fun k => L[k]?) i) (i + 1)) i (.val v)) (i + 1) .second := by
  obtain ⟨L1, h1, h2, h3⟩ := clear_ok hW (show i < L.size by omega) v
  have hne : (fun k => L[k]?) i ≠ none := by simp; omega
  have hi1 : i < L1.size := by omega
  have hi2 : i + 1 < L1.size := by omega
  rw [clearF_self hne] at h3
  have hWc := wff_clear (f := fun k => L[k]?) hW i
  generalize hF : clearF (fun k => L[k]?) i = F at *
  have hFi : F i = some .unset := by rw [← hF]; exact clearF_at hne
  have g1 : (fun k => (L1.setIfInBounds i (.val v))[k]?) = upd F i (.val v) := by rw [gset _ hi1, ← upd_upd _ i .unset, h3]
  have g2 : (L1.setIfInBounds i (.val v))[i + 1]? = F (i + 1) := by
    have := congrFun g1 (i + 1); simpa [upd] using this
  have hFi1 : F (i + 1) ≠ none := by
    have : (L1.setIfInBounds i (.val v))[i + 1]? ≠ none := by simp; omega
    rw [g2] at this; exact this
  have hns : F (i + 1) ≠ some .second := fun q => by
    obtain ⟨w, hw, -⟩ := hWc.2.1 i q
    rw [hFi] at hw; cases hw
  have key : ∀ G : Nat → Option Slot, WFf G → G i = some .unset → G (i + 1) = some .unset → G = clearF F (i + 1) → WFf (upd (upd (clearF F (i + 1)) i (.val v)) (i + 1) .second) := fun G hG a b e => by rw [← e]; exact wff_two hG a b hv
  have hcl := wff_clear hWc (i + 1)
  have hcli : clearF F (i + 1) i = some .unset := by
    rcases clearF_cases F (i + 1) with ⟨q, h2⟩ | ⟨old, q, hc, h2⟩ | ⟨old, q, hc, h2⟩ | ⟨-, h2⟩
    · exact absurd q hns
    · rw [h2]; simp [upd, hFi]
    · rw [h2]; simp [upd, hFi]
    · rw [h2]; exact hFi
  have hWF := wff_two hcl hcli (clearF_at hFi1) hv
  rw [h1, ss_eq, sa_eq hi1, Option.bind_some, if_pos hv, g2]
  cases hx : F (i + 1) with
  | none => exact absurd hx hFi1
  | some sl =>
    cases sl with
    | second => exact absurd hx hns
    | unset =>
      have e1 : clearF F (i + 1) = F := by simp only [clearF, hx]
      have e3 : (fun k => ((L1.setIfInBounds i (.val v)).setIfInBounds (i + 1) .second)[k]?) = upd (upd (clearF F (i + 1)) i (.val v)) (i + 1) .second := by
        rw [gset _ (by simpa using hi2), g1, e1]
      refine ⟨(L1.setIfInBounds i (.val v)).setIfInBounds (i + 1) .second, ?_, by simp [h2], ?_, e3⟩
      · show setAt _ (i + 1) .second = _
        rw [sa_eq (by simpa using hi2)]
      · have w : WFf (fun k => ((L1.setIfInBounds i (.val v)).setIfInBounds (i + 1) .second)[k]?) := by rw [e3]; exact hWF
        exact w
    | val old =>
      by_cases hc : old.category = 2
      · have q := hWc.1 _ _ hx hc
        have hi3 : i + 2 < L1.size := by
          have q2 : (L1.setIfInBounds i (.val v))[i + 2]? = some .second := by
            have := congrFun g1 (i + 2); simpa [upd, q] using this
          have := (Array.getElem?_eq_some_iff.mp q2).1
          simpa using this
        have e1 : clearF F (i + 1) = upd (upd F (i + 2) .unset) (i + 1) .unset := by simp only [clearF, hx, hc, if_true]
        have e3 : (fun k => (((L1.setIfInBounds i (.val v)).setIfInBounds (i + 2) .unset).setIfInBounds (i + 1) .second)[k]?) = upd (upd (clearF F (i + 1)) i (.val v)) (i + 1) .second := by
          rw [gset _ (by simpa using hi2), gset _ (by simpa using hi3), g1, e1]
          funext k; simp only [upd]
          by_cases a : k = i + 1
          · simp [a]
          · by_cases b : k = i
            · simp [b]
            · simp [a, b]
        refine ⟨((L1.setIfInBounds i (.val v)).setIfInBounds (i + 2) .unset).setIfInBounds (i + 1) .second, ?_, by simp [h2], ?_, e3⟩
        · show (if old.category = 2 then _ else _) = _
          rw [if_pos hc, sa_eq (by simpa using hi3), Option.bind_some, sa_eq (by simpa using hi2)]
        · have w : WFf (fun k => (((L1.setIfInBounds i (.val v)).setIfInBounds (i + 2) .unset).setIfInBounds (i + 1) .second)[k]?) := by rw [e3]; exact hWF
          exact w
      · have e1 : clearF F (i + 1) = upd F (i + 1) .unset := by simp only [clearF, hx, hc, if_false]
        have e3 : (fun k => ((L1.setIfInBounds i (.val v)).setIfInBounds (i + 1) .second)[k]?) = upd (upd (clearF F (i + 1)) i (.val v)) (i + 1) .second := by
          rw [gset _ (by simpa using hi2), g1, e1]
          funext k; simp only [upd]
          by_cases a : k = i + 1
          · simp [a]
          · by_cases b : k = i
            · simp [b]
            · simp [a, b]
        refine ⟨(L1.setIfInBounds i (.val v)).setIfInBounds (i + 1) .second, ?_, by simp [h2], ?_, e3⟩
        · show (if old.category = 2 then _ else _) = _
          rw [if_neg hc, sa_eq (by simpa using hi2)]
        · have w : WFf (fun k => ((L1.setIfInBounds i (.val v)).setIfInBounds (i + 1) .second)[k]?) := by rw [e3]; exact hWF
          exact w
theorem cat_va (ρ : Nat → Nat) (v : Value) : (va ρ v).category = v.category := by cases v <;> rfl
theorem clr_len (ls : Lv) (i : Nat) : (clr ls i).length = ls.length := by
  cases i with
  | zero => rfl
  | succ j => simp only [clr]; split <;> simp
theorem clr_get {ls : Lv} {i k : Nat} {v : Value} (h : (clr ls i)[k]? = some (some v)) : ls[k]? = some (some v) ∧ (k + 1 = i → v.category ≠ 2) := by
  cases i with
  | zero => exact ⟨h, fun q => by omega⟩
  | succ j =>
    simp only [clr] at h
    split at h
    · rename_i x e
      rw [List.getElem?_set] at h
      split at h
      · rename_i hj; subst hj; split at h <;> simp at h
      · rename_i hj; exact ⟨h, fun q => by omega⟩
    · rename_i x e
      rw [List.getElem?_set] at h
      split at h
      · rename_i hj; subst hj; split at h <;> simp at h
      · rename_i hj; exact ⟨h, fun q => by omega⟩
    · rename_i e1 e2
      refine ⟨h, fun q hc => ?_⟩
      have hk : k = j := by omega
      subst hk
      cases v <;> first | exact e1 _ h | exact e2 _ h | (exact Nat.noConfusion (Nat.succ.inj hc))
theorem store_ok {ρ : Nat → Nat} {ls ls' : Lv} {L : Array Slot} {i : Nat} {v : Value} (hL : LR ρ ls L) (hd : ∀ x, v ≠ .double x) (h : stl ls i v = some ls') : ∃ L', storeLocals L i (va ρ v) = some L' ∧ LR ρ ls' L' ∧ L'.size = L.size := by
  obtain ⟨hz, hr, hW⟩ := hL
  have hWf : WFf (fun k => L[k]?) := hW
  by_cases hc : v.category = 2
  · obtain ⟨x, rfl⟩ : ∃ x, v = .long x := by cases v <;> simp [Value.category] at hc <;> first | exact ⟨_, rfl⟩ | exact absurd rfl (hd _)
    simp only [stl] at h
    split at h
    · rename_i hi
      cases h
      obtain ⟨L', a1, a2, a3, a4⟩ := store_two hW (show i + 1 < L.size by omega) (v := va ρ (.long x)) rfl
      refine ⟨L', a1, ⟨by simp [a2, hz, clr_len], fun k w hk => ?_, a3⟩, a2⟩
      have q : L'[k]? = _ := congrFun a4 k
      rw [q]
      rw [List.getElem?_set] at hk
      split at hk
      · simp at hk
      · rename_i hk1
        rw [List.getElem?_set] at hk
        split at hk
        · rename_i hk2; subst hk2
          simp only [clr_len] at hk
          split at hk
          · cases hk; simp [upd]
          · simp at hk
        · rename_i hk2
          obtain ⟨b1, b2⟩ := clr_get hk
          have b3 := hr _ _ b1
          have b4 : clearF (fun k => L[k]?) i k = some (.val (va ρ w)) := clearF_keep hWf (fun q => hk2 q.symm) b3 (fun q => by rw [cat_va]; exact b2 q)
          have b5 := clearF_keep (wff_clear hWf i) (i := i + 1) (fun q => hk1 q.symm) b4 (fun q => absurd (Nat.succ.inj q) fun z => hk2 z.symm)
          simp only [upd, show ¬ k = i + 1 from fun q => hk1 q.symm, show ¬ k = i from fun q => hk2 q.symm, if_false]
          exact b5
    · cases h
  · have hs : stl ls i v = if i < ls.length then some ((clr ls i).set i (some v)) else none := by cases v <;> first | rfl | exact absurd rfl hc
    rw [hs] at h
    split at h
    · rename_i hi
      cases h
      obtain ⟨L', a1, a2, a3, a4⟩ := store_one hW (show i < L.size by omega) (v := va ρ v) (by rw [cat_va]; exact hc)
      refine ⟨L', a1, ⟨by simp [a2, hz, clr_len], fun k w hk => ?_, a3⟩, a2⟩
      have q : L'[k]? = _ := congrFun a4 k
      rw [q]
      rw [List.getElem?_set] at hk
      split at hk
      · rename_i hk2; subst hk2
        simp only [clr_len] at hk
        split at hk
        · cases hk; simp [upd]
        · omega
      · rename_i hk2
        obtain ⟨b1, b2⟩ := clr_get hk
        have b3 := hr _ _ b1
        have b4 : clearF (fun k => L[k]?) i k = some (.val (va ρ w)) := clearF_keep hWf (fun q => hk2 q.symm) b3 (fun q => by rw [cat_va]; exact b2 q)
        simp only [upd, show ¬ k = i from fun q => hk2 q.symm, if_false]
        exact b4
    · cases h
end Jvm.LM

namespace Jvm.LM
open Sem ClassFile Op Lib Jvm.Stand Jvm.Free Jvm.LawKit Jvm.RoadKit
section Pure
variable {p : Program} {l : Launch} {e : Env} {R : Room} {s : State} {m : MethodId} {args : Array Value} {below : List Frame} {meth : Method} {c : Code} {T : State} {locs : List Loc} {cells slots : Nat}
theorem br_eq (cd : ClassFile.Cond) (x y : Int32) (a b : Nat) : br cd x y a b = if if_icmp.holds cd x y = true then a else b := by
  cases cd <;> simp only [br]
  · by_cases h : x = y <;> simp [h, XT.ii_eq_t, XT.ii_eq_f]
  · by_cases h : x = y
    · rw [if_pos h, XT.ii_ne_f h]; rfl
    · rw [if_neg h, XT.ii_ne_t h]; rfl
  · by_cases h : x < y
    · rw [if_pos h, XT.ii_lt_t h]; rfl
    · rw [if_neg h, XT.ii_lt_f h]; rfl
  · by_cases h : x < y
    · rw [if_pos h, XT.ii_ge_f h]; rfl
    · rw [if_neg h, XT.ii_ge_t h]; rfl
  · by_cases h : y < x
    · rw [if_pos h, XT.ii_gt_t h]; rfl
    · rw [if_neg h, XT.ii_gt_f h]; rfl
  · by_cases h : y < x
    · rw [if_pos h, XT.ii_le_f h]; rfl
    · rw [if_neg h, XT.ii_le_t h]; rfl
theorem qstep_sound (X : Stand p l e R s m args below meth c T locs cells slots) (hx : p.tables.exec = Jvm.exec) {ρ : Nat → Nat} {i : Instr} {n pc pc' : Nat} {st st' : List Value}
    (h : qstep i pc st = some (pc', st')) (hd : decode c.code pc = .ok (i, n)) (hn : isSw i = true ∨ n = ilen i) {L : Array Slot} :
    ∀ target, Steps p.tables e below (T.setTop (mkF m pc' L (st'.map (va ρ)))) target → Steps p.tables e below (T.setTop (mkF m pc L (st.map (va ρ)))) target := by
  by_cases hsw : isSw i = true
  · cases i <;> first | exact absurd hsw Bool.false_ne_true | skip
    rename_i d lo hi offs
    simp only [qstep] at h
    split at h
    · rename_i x r
      split at h
      · rename_i e1
        split at h
        · rename_i e2; cases h; exact fun t q => X.tableswitchOut hx (g := mkF m pc L (.int x :: List.map (va ρ) _)) rfl rfl hd e1 e2 t q
        · cases h
      · rename_i e1
        split at h
        · rename_i o e2
          split at h
          · rename_i e3; cases h; exact fun t q => X.tableswitchIn hx (g := mkF m pc L (.int x :: List.map (va ρ) _)) rfl rfl hd e1 e2 e3 t q
          · cases h
        · cases h
    · cases h
  obtain rfl := hn.resolve_left hsw
  unfold qstep at h
  split at h
  -- constants
  · cases h; exact fun t q => XS.iconst X.here hx rfl hd q
  · cases h; exact fun t q => XS.bipush X.here hx rfl hd q
  · cases h; exact fun t q => XS.sipush X.here hx rfl hd q
  · cases h; exact fun t q => XT.lconst X.here hx rfl hd q
  -- ints
  · split at h
    · cases h; exact fun t q => XS.iadd X.here hx rfl hd rfl q
    · cases h
  · split at h
    · cases h; exact fun t q => XS.isub X.here hx rfl hd rfl q
    · cases h
  · split at h
    · cases h; exact fun t q => XS.imul X.here hx rfl hd rfl q
    · cases h
  · split at h
    · cases h; exact fun t q => XS.iand X.here hx rfl hd rfl q
    · cases h
  · split at h
    · cases h; exact fun t q => XT.ior X.here hx rfl hd rfl q
    · cases h
  · split at h
    · cases h; exact fun t q => XT.ixor X.here hx rfl hd rfl q
    · cases h
  · split at h
    · cases h; exact fun t q => XT.ishl X.here hx rfl hd rfl q
    · cases h
  · split at h
    · cases h; exact fun t q => XT.ishr X.here hx rfl hd rfl q
    · cases h
  · split at h
    · cases h; exact fun t q => XT.iushr X.here hx rfl hd rfl q
    · cases h
  · split at h
    · split at h
      · cases h
      · rename_i e1; cases h; exact fun t q => XS.idiv X.here hx rfl hd rfl e1 q
    · cases h
  · split at h
    · split at h
      · cases h
      · rename_i e1; cases h; exact fun t q => iremM X hx rfl hd rfl e1 q
    · cases h
  · split at h
    · cases h; exact fun t q => XS.ineg X.here hx rfl hd rfl q
    · cases h
  -- longs
  · split at h
    · cases h; exact fun t q => XT.ladd X.here hx rfl hd rfl q
    · cases h
  · split at h
    · cases h; exact fun t q => XT.lsub X.here hx rfl hd rfl q
    · cases h
  · split at h
    · cases h; exact fun t q => XT.lmul X.here hx rfl hd rfl q
    · cases h
  · split at h
    · cases h; exact fun t q => XT.land X.here hx rfl hd rfl q
    · cases h
  · split at h
    · cases h; exact fun t q => XT.lor X.here hx rfl hd rfl q
    · cases h
  · split at h
    · cases h; exact fun t q => XT.lxor X.here hx rfl hd rfl q
    · cases h
  · split at h
    · cases h; exact fun t q => XT.lshl X.here hx rfl hd rfl q
    · cases h
  · split at h
    · cases h; exact fun t q => XT.lshr X.here hx rfl hd rfl q
    · cases h
  · split at h
    · cases h; exact fun t q => XT.lushr X.here hx rfl hd rfl q
    · cases h
  · split at h
    · split at h
      · cases h
      · rename_i e1; cases h; exact fun t q => XT.ldiv X.here hx rfl hd rfl e1 q
    · cases h
  · split at h
    · cases h; exact fun t q => XT.lneg X.here hx rfl hd rfl q
    · cases h
  · split at h
    · cases h; exact fun t q => XT.lcmp X.here hx rfl hd rfl q
    · cases h
  · split at h
    · cases h; exact fun t q => XT.i2l X.here hx rfl hd rfl q
    · cases h
  · split at h
    · cases h; exact fun t q => XT.l2i X.here hx rfl hd rfl q
    · cases h
  -- dup, pop
  · split at h
    · cases h; exact fun t q => XS.dup X.here hx rfl hd rfl rfl q
    · cases h; exact fun t q => XS.dup X.here hx rfl hd rfl rfl q
    · cases h
  · split at h
    · cases h; exact fun t q => XT.pop X.here hx rfl hd rfl rfl q
    · cases h; exact fun t q => XT.pop X.here hx rfl hd rfl rfl q
    · cases h
  -- jumps
  · split at h
    · rename_i e1; cases h; exact fun t q => XS.goto X.here hx rfl rfl hd e1 rfl q
    · cases h
  · split at h
    · split at h
      · rename_i e1; cases h
        intro t q
        rw [br_eq] at q
        split at q
        · rename_i e2; exact XS.ifYes X.here hx rfl rfl hd rfl (by rw [if0]; exact e2) e1 rfl q
        · rename_i e2; exact XS.ifNo X.here hx rfl hd rfl (by rw [if0]; simpa using e2) q
      · cases h
    · cases h
  · split at h
    · split at h
      · rename_i e1; cases h
        intro t q
        rw [br_eq] at q
        split at q
        · rename_i e2; exact XS.icmpYes X.here hx rfl rfl hd rfl e2 e1 rfl q
        · rename_i e2; exact XS.icmpNo X.here hx rfl hd rfl (by simpa using e2) q
      · cases h
    · cases h
  · exact absurd rfl hsw
  · cases h
theorem pstep_sound (X : Stand p l e R s m args below meth c T locs cells slots) (hx : p.tables.exec = Jvm.exec) {ρ : Nat → Nat} {i : Instr} {n pc pc' : Nat} {ls ls' : Lv} {st st' : List Value}
    (h : pstep i pc ls st = some (pc', ls', st')) (hd : decode c.code pc = .ok (i, n)) (hn : isSw i = true ∨ n = ilen i) {L : Array Slot} (hL : LR ρ ls L) :
    ∃ L', LR ρ ls' L' ∧ L'.size = L.size ∧ ∀ target, Steps p.tables e below (T.setTop (mkF m pc' L' (st'.map (va ρ)))) target → Steps p.tables e below (T.setTop (mkF m pc L (st.map (va ρ)))) target := by
  by_cases hsw : isSw i = true
  · cases i <;> first | exact absurd hsw Bool.false_ne_true | skip
    simp only [pstep] at h
    split at h
    · rename_i e1; cases h; exact ⟨L, hL, rfl, qstep_sound X hx e1 hd hn⟩
    · cases h
  obtain rfl := hn.resolve_left hsw
  unfold pstep at h
  split at h
  -- loads
  · split at h
    · rename_i e1; cases h; exact ⟨L, hL, rfl, fun t q => XS.iloadN X.here hx rfl hd (hL.2.1 _ _ e1) q⟩
    · cases h
  · split at h
    · rename_i e1; cases h; exact ⟨L, hL, rfl, fun t q => XS.iload X.here hx rfl hd (hL.2.1 _ _ e1) q⟩
    · cases h
  · split at h
    · rename_i e1; cases h; exact ⟨L, hL, rfl, fun t q => XT.lloadN X.here hx rfl hd (hL.2.1 _ _ e1) q⟩
    · cases h
  · split at h
    · rename_i e1; cases h; exact ⟨L, hL, rfl, fun t q => XT.lload X.here hx rfl hd (hL.2.1 _ _ e1) q⟩
    · cases h
  · split at h
    · rename_i e1; cases h; exact ⟨L, hL, rfl, fun t q => XS.aloadN X.here hx rfl hd (hL.2.1 _ _ e1) rfl q⟩
    · cases h
  · split at h
    · rename_i e1; cases h; exact ⟨L, hL, rfl, fun t q => XS.aload X.here hx rfl hd (hL.2.1 _ _ e1) rfl q⟩
    · cases h
  -- stores
  · split at h
    · split at h
      · rename_i e1; cases h
        obtain ⟨L', a1, a2, a3⟩ := store_ok hL (fun x => by simp) e1
        exact ⟨L', a2, a3, fun t q => XS.istoreN X.here hx rfl hd rfl a1 q⟩
      · cases h
    · cases h
  · split at h
    · split at h
      · rename_i e1; cases h
        obtain ⟨L', a1, a2, a3⟩ := store_ok hL (fun x => by simp) e1
        exact ⟨L', a2, a3, fun t q => XS.istore X.here hx rfl hd rfl a1 q⟩
      · cases h
    · cases h
  · split at h
    · split at h
      · rename_i e1; cases h
        obtain ⟨L', a1, a2, a3⟩ := store_ok hL (fun x => by simp) e1
        exact ⟨L', a2, a3, fun t q => XT.lstoreN X.here hx rfl hd rfl a1 q⟩
      · cases h
    · cases h
  · split at h
    · split at h
      · rename_i e1; cases h
        obtain ⟨L', a1, a2, a3⟩ := store_ok hL (fun x => by simp) e1
        exact ⟨L', a2, a3, fun t q => XT.lstore X.here hx rfl hd rfl a1 q⟩
      · cases h
    · cases h
  · split at h
    · split at h
      · rename_i e1; cases h
        obtain ⟨L', a1, a2, a3⟩ := store_ok hL (fun x => by simp) e1
        exact ⟨L', a2, a3, fun t q => XS.astoreN X.here hx rfl hd rfl rfl a1 q⟩
      · cases h
    · cases h
  · split at h
    · split at h
      · rename_i e1; cases h
        obtain ⟨L', a1, a2, a3⟩ := store_ok hL (fun x => by simp) e1
        exact ⟨L', a2, a3, fun t q => XS.astore X.here hx rfl hd rfl rfl a1 q⟩
      · cases h
    · cases h
  · split at h
    · rename_i e0
      split at h
      · rename_i e1; cases h
        obtain ⟨L', a1, a2, a3⟩ := store_ok hL (fun x => by simp) e1
        exact ⟨L', a2, a3, fun t q => XS.iinc X.here hx rfl hd (hL.2.1 _ _ e0) a1 q⟩
      · cases h
    · cases h
  · rename_i hq
    split at h
    · rename_i e1; cases h; exact ⟨L, hL, rfl, qstep_sound X hx e1 hd hn⟩
    · cases h
end Pure
/-! the class's own machine -/
def nd : List Value → Bool
  | [] => true
  | .double _ :: _ => false
  | _ :: r => nd r
theorem nd_spec {as : List Value} (h : nd as = true) : ∀ v ∈ as, ∀ x, v ≠ .double x := by
  induction as with
  | nil => intro v hv; cases hv
  | cons w r ih =>
    intro v hv x e
    rcases List.mem_cons.mp hv with q | q
    · subst q; subst e; cases h
    · refine ih ?_ v q x e
      cases w <;> first | exact h | cases h
def layA : List Value → Lv
  | [] => []
  | .long x :: r => some (.long x) :: none :: layA r
  | v :: r => some v :: layA r
def lay (as : List Value) (n : Nat) : Lv := layA as ++ List.replicate (n - (layA as).length) none
def cats (st : List Value) : Nat := (st.map fun v => v.category).sum
def tyOf : Nat → FieldType
  | 0 => .int
  | 1 => .boolean
  | _ => .long
def atOf : Nat → ArrayType
  | 0 => .int
  | 1 => .boolean
  | _ => .long
def retOf : Nat → Option FieldType
  | 0 => none
  | 1 => some .int
  | 2 => some .boolean
  | _ => some .long
def zs (al : List (Nat × Nat)) (c : Nat) : Nat := ((al.take c).map (·.2)).sum
abbrev Rs := Option (Option Value × St)
def cret (me : Me) (st : List Value) (i : Instr) : Option (Option Value) :=
  match i with
  | .ireturn => match st with
    | [.int x] => if me.rt = 1 then some (some (.int x)) else if me.rt = 2 then some (some (.int (x &&& 1))) else none
    | _ => none
  | .lreturn => match st with
    | [.long x] => if me.rt = 3 then some (some (.long x)) else none
    | _ => none
  | .return_ => match st with
    | [] => if me.rt = 0 then some none else none
    | _ => none
  | _ => none
def isRet : Instr → Bool
  | .ireturn => true
  | .lreturn => true
  | .return_ => true
  | _ => false
def gfld (P : Cl) (x : Nat) (c : Nat) (s : St) : Option Value :=
  match asc P.fx x with
  | none => none
  | some k => match asc P.fs k with
    | none => none
    | some fe => match fe.2.2.1 with
      | 0 => some (.int (gI s 0 k))
      | 1 => some (.int (gI s 0 k))
      | 2 => some (.long (gL s 0 k))
      | j + 3 => if j < c then some (.ref (j + 1)) else none
def pfld (P : Cl) (x : Nat) (ini : Bool) (v : Value) (s : St) : Option St :=
  match asc P.fx x with
  | none => none
  | some k => match asc P.fs k with
    | none => none
    | some fe => if fe.2.2.2 = true ∧ ini = false then none else
      match fe.2.2.1, v with
      | 0, .int z => some (sI s 0 k z)
      | 1, .int z => some (sI s 0 k (z &&& 1))
      | 2, .long z => some (sL s 0 k z)
      | _, _ => none
def newF (P : Cl) (t : ArrayType) (cd : Cd) (pc c : Nat) (st : List Value) : Bool :=
  match st with
  | [.int n, .ref 0] => match fetch cd (pc + 2) with
    | some (.putfield x, 3) => match asc P.fx x with
      | some k => match asc P.fs k with
        | some fe => match P.al[c]? with
          | some (tt, N) => decide (fe.2.2.1 = c + 3 ∧ t = atOf tt ∧ 0 ≤ n.toInt ∧ n.toInt = N ∧ N < 1000000)
          | none => false
        | none => false
      | none => false
    | _ => false
  | _ => false
def lda (P : Cl) (tt c : Nat) (st : List Value) (s : St) : Option (List Value) :=
  match st with
  | .int i :: .ref (a + 1) :: r => match P.al[a]? with
    | some (t2, N) => if t2 = tt ∧ a < c then (if inb N i then some ((if tt = 2 then .long (gL s (a + 1) (ix i)) else .int (gI s (a + 1) (ix i))) :: r) else none) else none
    | none => none
  | _ => none
def sta (P : Cl) (tt c : Nat) (st : List Value) (s : St) : Option (List Value × St) :=
  match st with
  | v :: .int i :: .ref (a + 1) :: r => match P.al[a]? with
    | some (t2, N) => if t2 = tt ∧ a < c then (if inb N i then (match tt, v with
        | 0, .int z => some (r, sI s (a + 1) (ix i) z)
        | 1, .int z => some (r, sI s (a + 1) (ix i) (z &&& 1))
        | 2, .long z => some (r, sL s (a + 1) (ix i) z)
        | _, _ => none) else none) else none
    | none => none
  | _ => none
def cstep {α : Type} (P : Cl) (mi : Nat) (me : Me) (rt : Option Value → St → Option α) (cl : Nat → Nat → List Value → St → Rs) (k : Nat → Nat → Lv → List Value → St → Option α) (i : Instr) (c pc : Nat) (ls : Lv) (st : List Value) (s : St) : Option α :=
  match i with
  | .getfield x => match st with
    | .ref 0 :: r => (match gfld P x c s with | some v => k c (pc + 3) ls (v :: r) s | none => none)
    | _ => none
  | .putfield x => match st with
    | v :: .ref 0 :: r => (match pfld P x (mi == 0) v s with | some s' => k c (pc + 3) ls r s' | none => none)
    | _ => none
  | .iaload => match lda P 0 c st s with | some st' => k c (pc + 1) ls st' s | none => none
  | .baload => match lda P 1 c st s with | some st' => k c (pc + 1) ls st' s | none => none
  | .laload => match lda P 2 c st s with | some st' => k c (pc + 1) ls st' s | none => none
  | .iastore => match sta P 0 c st s with | some (st', s') => k c (pc + 1) ls st' s' | none => none
  | .bastore => match sta P 1 c st s with | some (st', s') => k c (pc + 1) ls st' s' | none => none
  | .lastore => match sta P 2 c st s with | some (st', s') => k c (pc + 1) ls st' s' | none => none
  | .newarray t => if mi = 0 ∧ newF P t me.cd pc c st = true then k (c + 1) (pc + 5) ls [] s else none
  | .ldc x => match asc P.kx x with | some (.int z) => k c (pc + 2) ls (.int z :: st) s | _ => none
  | .ldc2_w x => match asc P.kx x with | some (.long z) => k c (pc + 3) ls (.long z :: st) s | _ => none
  | .invokespecial x => match st with
    | .ref 0 :: r => if x = P.oi ∧ 1 ≤ me.rf ∧ cats r + 12 ≤ me.rl then k c (pc + 3) ls r s else none
    | _ => none
  | .invokevirtual x => match asc P.mx x with
    | none => none
    | some m' => match asc P.ms m' with
      | none => none
      | some me' => match st.drop me'.na with
        | .ref 0 :: r => if m' ≠ 0 ∧ me'.rf + 1 ≤ me.rf ∧ cats r + (me'.ml + 11) + me'.rl ≤ me.rl ∧ nd (st.take me'.na) = true then
            (match cl m' c (.ref 0 :: (st.take me'.na).reverse) s with
             | some (none, s') => k c (pc + 3) ls r s'
             | some (some v, s') => k c (pc + 3) ls (v :: r) s'
             | none => none) else none
        | _ => none
  | i => if isRet i = true then (if mi = 0 ∧ c ≠ P.al.length then none else match cret me st i with | some v => rt v s | none => none)
    else match pstep i pc ls st with | some (pc', ls', st') => k c pc' ls' st' s | none => none
def cexec (P : Cl) : Nat → Nat → Me → Nat → Nat → Lv → List Value → St → Rs
  | 0, _, _, _, _, _, _, _ => none
  | f + 1, mi, me, c, pc, ls, st, s => match fetch me.cd pc with
    | none => none
    | some (i, _) => cstep P mi me (fun v s => some (v, s)) (fun m' c as s => match asc P.ms m' with | some me' => (if (layA as).length ≤ me'.ml then cexec P f m' me' c 0 (lay as me'.ml) [] s else none) | none => none) (cexec P f mi me) i c pc ls st s
def ccall (P : Cl) (f m' c : Nat) (as : List Value) (s : St) : Rs := match asc P.ms m' with | some me' => (if (layA as).length ≤ me'.ml then cexec P f m' me' c 0 (lay as me'.ml) [] s else none) | none => none
end Jvm.LM

namespace Jvm.LM
open Sem ClassFile Op Lib Jvm.Stand Jvm.Free Jvm.LawKit Jvm.RoadKit
/-! how the machine's state stands in the heap -/
theorem adr_ne (a j : Nat) : a + (j + 1) ≠ a := by omega
theorem adr_ne' (a j : Nat) : a ≠ a + (j + 1) := by omega
theorem adr_ne2 (a : Nat) {j k : Nat} (h : j ≠ k) : a + (j + 1) ≠ a + (k + 1) := by omega
def Fval (adr c : Nat) (s : St) (k : Nat) (fe : Fe) : Value :=
  match fe.2.2.1 with
  | 0 => .int (gI s 0 k)
  | 1 => .int (gI s 0 k)
  | 2 => .long (gL s 0 k)
  | j + 3 => if j < c then .ref (adr + (j + 1)) else .null
def elv (tt : Nat) (s : St) (j i : Nat) : Value := if tt = 2 then .long (gL s j i) else .int (gI s j i)
def ARep (Z : State) (h : Heap) (a tt N : Nat) (s : St) (j : Nat) : Prop :=
  ∃ cl : Cell, Arr Z h a cl (tyOf tt) ∧ cl.slots.size = N ∧ ∀ i, i < N → cl.slots[i]? = some (elv tt s j i)
def HRep (P : Cl) (Z : State) (h : Heap) (adr c : Nat) (s : St) : Prop :=
  Exa Z h adr P.nm ∧ (∀ k fe, asc P.fs k = some fe → Fld Z h adr P.nm fe.1 fe.2.1 (Fval adr c s k fe)) ∧
  (∀ (j tt N : Nat), P.al[j]? = some (tt, N) → j < c → ARep Z h (adr + (j + 1)) tt N s (j + 1)) ∧
  (∀ j i, c < j → gI s j i = 0 ∧ gL s j i = 0) ∧ c ≤ P.al.length
def fkTy (P : Cl) : Nat → FieldType
  | 0 => .int
  | 1 => .boolean
  | 2 => .long
  | j + 3 => .array (tyOf ((P.al[j]?.map (·.1)).getD 0))
def yOf (P : Cl) (me : Me) : MethodName := ⟨P.nm, me.nm, me.ds⟩
def LinkC (P : Cl) (Z : State) (a0 : Array Value) : Prop :=
  ((∃ nF, (Cond.instantiable P.nm nF).before a0 Z = true) ∧ (Cond.initialized P.nm).before a0 Z = true) ∧
  (∀ x k, asc P.fx x = some k → ∀ fe, asc P.fs k = some fe → (Cond.fieldLink P.nm x P.nm fe.1 fe.2.1).before a0 Z = true) ∧
  (∀ k fe, asc P.fs k = some fe → (if fe.2.2.2 = true then Cond.laysFinal P.nm P.nm fe.1 fe.2.1 else Cond.lays P.nm P.nm fe.1 fe.2.1).before a0 Z = true) ∧
  (∀ k fe, asc P.fs k = some fe → parseFieldDescriptor fe.2.1 = some (fkTy P fe.2.2.1)) ∧
  (∀ k k' fe fe', asc P.fs k = some fe → asc P.fs k' = some fe' → k ≠ k' → fe.1 ≠ fe'.1 ∧ (3 ≤ fe.2.2.1 → fe.2.2.1 ≠ fe'.2.2.1)) ∧
  (∀ (j tt N : Nat), P.al[j]? = some (tt, N) → tt ≤ 2 ∧ (Cond.arrayClass (tyOf tt)).before a0 Z = true) ∧
  (∀ x v, asc P.kx x = some v → match v with
    | .int z => (Cond.constant P.nm x z).before a0 Z = true
    | .long z => (Cond.constantLong P.nm x z).before a0 Z = true
    | _ => True) ∧
  ((Cond.methodLink P.nm P.oi Lib.objectInit).before a0 Z = true ∧ (Cond.instanceMethod Lib.objectInit).before a0 Z = true ∧ (Cond.code Lib.objectInit ⟨#[0xb1]⟩ 1 none).before a0 Z = true) ∧
  (∀ mi me, asc P.ms mi = some me → ∃ (bytes : ByteArray) (ps : List FieldType), (Cond.code (yOf P me) bytes me.ml (retOf me.rt)).before a0 Z = true ∧
    (∀ pc i n, fetch me.cd pc = some (i, n) → decode bytes pc = .ok (i, n) ∧ (isSw i = true ∨ n = ilen i)) ∧ parseMethodDescriptor me.ds = some ⟨ps, retOf me.rt⟩ ∧ ps.length = me.na) ∧
  (∀ x mi, asc P.mx x = some mi → ∀ me, asc P.ms mi = some me → (Cond.methodLink P.nm x (yOf P me)).before a0 Z = true ∧ (Cond.instanceMethod (yOf P me)).before a0 Z = true ∧
    ((Cond.privateMethod (yOf P me)).before a0 Z = true ∨ ((Cond.declares (yOf P me)).before a0 Z = true ∧ (Cond.selects P.nm (yOf P me) (yOf P me)).before a0 Z = true))) ∧
  plainName P.nm = true ∧ (P.nm ≠ "java/lang/invoke/MethodHandle" ∧ P.nm ≠ "java/lang/invoke/VarHandle") ∧ (∀ me, asc P.ms 0 = some me → me.nm = "<init>")
theorem gI_sI (s : St) (c j : Nat) (v : Int32) (a b : Nat) : gI (sI s c j v) a b = if a = c ∧ b = j then v else gI s a b := rfl
theorem gL_sI (s : St) (c j : Nat) (v : Int32) (a b : Nat) : gL (sI s c j v) a b = gL s a b := rfl
theorem gI_sL (s : St) (c j : Nat) (v : Int64) (a b : Nat) : gI (sL s c j v) a b = gI s a b := rfl
theorem gL_sL (s : St) (c j : Nat) (v : Int64) (a b : Nat) : gL (sL s c j v) a b = if a = c ∧ b = j then v else gL s a b := rfl
theorem laid_of {P : Cl} {Z : State} {a0 : Array Value} (LK : LinkC P Z a0) {k : Nat} {fe : Fe} (hk : asc P.fs k = some fe) : Laid Z a0 P.nm P.nm fe.1 fe.2.1 := by
  have q := LK.2.2.1 k fe hk
  split at q
  · exact Or.inr q
  · exact Or.inl q
/-- a heap that is alike where the object lies -/
theorem HRep.congr {P : Cl} {Z : State} {h h' : Heap} {adr c : Nat} {s : St} (H : HRep P Z h adr c s) (e : ∀ x, adr ≤ x → x < adr + 1 + P.al.length → h'[x]? = h[x]?) : HRep P Z h' adr c s := by
  obtain ⟨h1, h2, h3, h4, h5⟩ := H
  have ea : h'[adr]? = h[adr]? := e adr (Nat.le_refl _) (by omega)
  refine ⟨?_, fun k fe hk => ?_, fun j tt N hj hc => ?_, h4, h5⟩
  · obtain ⟨cell, k, q1, r⟩ := h1; exact ⟨cell, k, by rw [ea]; exact q1, r⟩
  · obtain ⟨cell, cf, k, i, f, q1, r⟩ := h2 k fe hk; exact ⟨cell, cf, k, i, f, by rw [ea]; exact q1, r⟩
  · obtain ⟨cl, ⟨q1, q2⟩, q3⟩ := h3 j tt N hj hc
    exact ⟨cl, ⟨by rw [e _ (by omega) (by omega)]; exact q1, q2⟩, q3⟩
theorem HRep.putFld {P : Cl} {Z : State} {a0 : Array Value} (LK : LinkC P Z a0) {h h' : Heap} {adr c k : Nat} {fe : Fe} {s s' : St} {v : Value} (H : HRep P Z h adr c s) (hk : asc P.fs k = some fe)
    (W : Wr h h' adr (RoadKit.slotOf Z P.nm fe.1 fe.2.1) v) (hv : v = Fval adr c s' k fe) (hI : ∀ a b, (a ≠ 0 ∨ b ≠ k) → gI s' a b = gI s a b ∧ gL s' a b = gL s a b) : HRep P Z h' adr c s' := by
  obtain ⟨h1, h2, h3, h4, h5⟩ := H
  refine ⟨h1.wr W, fun k2 fe2 hk2 => ?_, fun j tt N hj hc => ?_, fun j i hj => ?_, h5⟩
  · by_cases e : k2 = k
    · subst e; cases hk.symm.trans hk2
      rw [← hv]; exact (h2 _ _ hk).same W
    · have hne := (LK.2.2.2.2.1 _ _ _ _ hk2 hk e).1
      have q := (h2 _ _ hk2).other W (Or.inr (slot_ne (laid_of LK hk2) (laid_of LK hk) hne (LK.2.2.2.1 _ _ hk2) (LK.2.2.2.1 _ _ hk)))
      have e2 : Fval adr c s' k2 fe2 = Fval adr c s k2 fe2 := by
        have := hI 0 k2 (Or.inr e)
        simp only [Fval]; split <;> simp [this.1, this.2]
      rw [e2]; exact q
  · obtain ⟨cl, q1, q2, q3⟩ := h3 j tt N hj hc
    refine ⟨cl, q1.other W (adr_ne _ _), q2, fun i hi => ?_⟩
    have := hI (j + 1) i (Or.inl (by omega))
    rw [q3 i hi]; simp only [elv, this.1, this.2]
  · have := hI j i (Or.inl (by omega))
    rw [this.1, this.2]; exact h4 j i hj
theorem HRep.putArr {P : Cl} {Z : State} {h h' : Heap} {adr c a tt N n : Nat} {s s' : St} {v : Value} (H : HRep P Z h adr c s) (ha : P.al[a]? = some (tt, N)) (hac : a < c) (hn : n < N)
    (W : Wr h h' (adr + (a + 1)) n v) (hv : v = elv tt s' (a + 1) n) (hI : ∀ x y, (x ≠ a + 1 ∨ y ≠ n) → gI s' x y = gI s x y ∧ gL s' x y = gL s x y) : HRep P Z h' adr c s' := by
  obtain ⟨h1, h2, h3, h4, h5⟩ := H
  refine ⟨h1.wr W, fun k fe hk => ?_, fun j tt2 N2 hj hc => ?_, fun j i hj => ?_, h5⟩
  · have q := (h2 _ _ hk).other W (Or.inl (adr_ne' _ _))
    have e2 : Fval adr c s' k fe = Fval adr c s k fe := by
      have := hI 0 k (Or.inl (by omega))
      simp only [Fval]; split <;> simp [this.1, this.2]
    rw [e2]; exact q
  · obtain ⟨cl, q1, q2, q3⟩ := h3 j tt2 N2 hj hc
    by_cases e : j = a
    · subst e; cases ha.symm.trans hj
      refine ⟨cl.setSlot n v, q1.same W, by rw [sz_set]; exact q2, fun i hi => ?_⟩
      by_cases ei : i = n
      · subst ei; rw [← hv]; simp [Cell.setSlot, q2, hi]
      · have := hI (j + 1) i (Or.inr ei)
        have q4 := q3 i hi
        simp only [elv, this.1, this.2] at q4 ⊢
        simp only [Cell.setSlot]
        rw [Array.getElem?_setIfInBounds_ne (fun q => ei q.symm)]; exact q4
    · refine ⟨cl, q1.other W (adr_ne2 _ e), q2, fun i hi => ?_⟩
      have := hI (j + 1) i (Or.inl (by omega))
      rw [q3 i hi]; simp only [elv, this.1, this.2]
  · have := hI j i (Or.inl (by omega))
    rw [this.1, this.2]; exact h4 j i hj
theorem HRep.newArr {P : Cl} {Z : State} {a0 : Array Value} (LK : LinkC P Z a0) {h h1 h2 : Heap} {adr c k tt N : Nat} {fe : Fe} {s : St} {n : Int32} {cA : ClassId} (H : HRep P Z h adr c s) (hk : asc P.fs k = some fe) (hkd : fe.2.2.1 = c + 3)
    (ha : P.al[c]? = some (tt, N)) (hn0 : 0 ≤ n.toInt) (hn : n.toInt = N) (hsz : h.size = adr + 1 + c) (E : Ext h h1) (A : Arr Z h1 h.size (newA cA (tyOf tt) n) (tyOf tt)) (W : Wr h1 h2 adr (RoadKit.slotOf Z P.nm fe.1 fe.2.1) (.ref h.size)) : HRep P Z h2 adr (c + 1) s := by
  obtain ⟨g1, g2, g3, g4, g5⟩ := H
  have hc : c < P.al.length := (List.getElem?_eq_some_iff.mp ha).1
  have hNn : n.toNatClampNeg = N := by simp only [Int32.toNatClampNeg]; omega
  have htt := (LK.2.2.2.2.2.1 _ _ _ ha).1
  refine ⟨(g1.ext E).wr W, fun k2 fe2 hk2 => ?_, fun j tt2 N2 hj hjc => ?_, fun j i hj => g4 j i (by omega), hc⟩
  · by_cases e : k2 = k
    · subst e; cases hk.symm.trans hk2
      have q := ((g2 _ _ hk).ext E).same W
      have e2 : Fval adr (c + 1) s k2 fe = .ref h.size := by simp only [Fval, hkd]; rw [if_pos (Nat.lt_succ_self c), hsz]; exact congrArg Value.ref (show adr + (c + 1) = adr + 1 + c by omega)
      rw [e2]; exact q
    · have hne := LK.2.2.2.2.1 _ _ _ _ hk2 hk e
      have q := ((g2 _ _ hk2).ext E).other W (Or.inr (slot_ne (laid_of LK hk2) (laid_of LK hk) hne.1 (LK.2.2.2.1 _ _ hk2) (LK.2.2.2.1 _ _ hk)))
      have e2 : Fval adr (c + 1) s k2 fe2 = Fval adr c s k2 fe2 := by
        simp only [Fval]; split
        · rfl
        · rfl
        · rfl
        · rename_i j hj
          have : j ≠ c := fun q => (hne.2 (by rw [hj]; omega)) (by rw [hj, hkd, q])
          by_cases b : j < c
          · rw [if_pos b, if_pos (by omega)]
          · rw [if_neg b, if_neg (by omega)]
      rw [e2]; exact q
  · by_cases e : j = c
    · subst e; cases ha.symm.trans hj
      have hA : Arr Z h2 h.size (newA cA (tyOf tt) n) (tyOf tt) := A.other W (show h.size ≠ adr by omega)
      refine ⟨newA cA (tyOf tt) n, by rw [show adr + (j + 1) = h.size by omega]; exact hA, by rw [sz_new]; exact hNn, fun i hi => ?_⟩
      have z := g4 (j + 1) i (by omega)
      simp only [newA, hNn, elv, z.1, z.2]
      rw [Array.getElem?_replicate, if_pos hi]
      have : tt = 0 ∨ tt = 1 ∨ tt = 2 := by omega
      rcases this with rfl | rfl | rfl <;> rfl
    · obtain ⟨cl, q1, q2, q3⟩ := g3 j tt2 N2 hj (by omega)
      exact ⟨cl, (q1.ext E).other W (adr_ne _ _), q2, q3⟩
/-- outside the object nothing moves -/
def Kp (h0 h : Heap) (adr n : Nat) : Prop := ∀ x, (x < adr ∨ adr + 1 + n ≤ x) → h[x]? = h0[x]?
theorem Kp.wr {h0 h h' : Heap} {adr n a sl : Nat} {v : Value} (K : Kp h0 h adr n) (W : Wr h h' a sl v) (h1 : adr ≤ a) (h2 : a < adr + 1 + n) : Kp h0 h' adr n := fun x hx => by
  obtain ⟨cell, q1, q2, q3, rfl⟩ := W
  rw [Array.getElem?_setIfInBounds_ne (by omega)]; exact K x hx
theorem Kp.ext {h0 h h' : Heap} {adr n : Nat} (K : Kp h0 h adr n) (E : Ext h h') (h1 : h'.size ≤ adr + 1 + n) (h2 : adr ≤ h.size) : Kp h0 h' adr n := fun x hx => by
  rw [← K x hx]
  by_cases b : x < h.size
  · obtain ⟨c, hc⟩ : ∃ c, h[x]? = some c := ⟨h[x], Array.getElem?_eq_getElem b⟩
    rw [hc]; exact E.2 _ _ hc
  · rw [Array.getElem?_eq_none (by omega), Array.getElem?_eq_none (by omega)]
theorem Kp.trans {h0 h h' : Heap} {adr n : Nat} (K : Kp h0 h adr n) (K' : Kp h h' adr n) : Kp h0 h' adr n := fun x hx => (K' x hx).trans (K x hx)
def cRoom (P : Cl) (mi : Nat) (me : Me) : Room := { frames := me.rf, cells := if mi = 0 then P.al.length else 0, slots := if mi = 0 then zs P.al P.al.length else 0, locals := me.rl }
def QC (P : Cl) (Z : State) (n0 adr mi c : Nat) (w : Option Value) (s' : St) (h0 : Heap) (v : Option Value) (h : Heap) (L : List Loc) : Prop :=
  (v = w ∧ ∀ ρ, v.toList.map (va ρ) = v.toList) ∧ Fr n0 L ∧ HRep P Z h adr (if mi = 0 then P.al.length else c) s' ∧ Kp h0 h adr P.al.length ∧ h.size = (if mi = 0 then adr + 1 + P.al.length else h0.size)
/-- the run from S ends, and so -/
def Don (p : Program) (e : Env) (below : List Frame) (s₀ : State) (rm : Room) (Q : Option Value → Heap → List Loc → Prop) (S : State) : Prop :=
  ∃ s₂ o, Steps p.tables e below S s₂ ∧ s₂.status = .running ∧ Ended s₂ below o ∧ ∃ v L, o = .returned v ∧ Q v s₂.heap L ∧ FrameEnd s₀ o s₂ L rm.cells rm.slots
theorem Don.step {p : Program} {e : Env} {below : List Frame} {s₀ : State} {rm : Room} {Q : Option Value → Heap → List Loc → Prop} {S S' : State} (h : ∀ t, Steps p.tables e below S' t → Steps p.tables e below S t) (D : Don p e below s₀ rm Q S') : Don p e below s₀ rm Q S := by
  obtain ⟨s₂, o, h1, h2⟩ := D; exact ⟨s₂, o, h _ h1, h2⟩
def Inv (P : Cl) (Z : State) (n0 adr mi c : Nat) (s : St) (h0 h : Heap) (locs : List Loc) : Prop :=
  HRep P Z h adr c s ∧ Fr n0 locs ∧ Kp h0 h adr P.al.length ∧ h.size = (if mi = 0 then adr + 1 + c else h0.size)
def co (mi c : Nat) : Nat := if mi = 0 then c else 0
def zo (P : Cl) (mi c : Nat) : Nat := if mi = 0 then zs P.al c else 0
/-- what the walk of a body is to show, at a given fuel -/
def CW (P : Cl) (Z : State) (n0 adr f mi : Nat) (me : Me) : Prop :=
  ∀ (p : Program) (l : Launch) (e : Env) (s₀ : State) (m : MethodId) (args : Array Value) (below : List Frame) (meth : Method) (cd : Code) (T : State) (locs : List Loc) (h0 : Heap) (c pc : Nat) (ls : Lv) (st : List Value) (s : St) (v : Option Value) (s' : St) (L : Array Slot),
    p.tables.exec = Jvm.exec → Z.Warmed39 s₀.vm → s₀.vm.findClass P.nm = some m.cls → meth.name = me.nm → meth.sig.returnType = retOf me.rt → cd.maxLocals = me.ml → meth.locks = false → (mi = 0 → s₀.heap.size = adr + 1) →
    (∀ pc i n, fetch me.cd pc = some (i, n) → decode cd.code pc = .ok (i, n) ∧ (isSw i = true ∨ n = ilen i)) →
    cexec P f mi me c pc ls st s = some (v, s') →
    Stand p l e (cRoom P mi me) s₀ m args below meth cd T locs (co mi c) (zo P mi c) →
    Inv P Z n0 adr mi c s h0 T.heap locs → LR (adr + ·) ls L → ls.length = me.ml →
    Don p e below s₀ (cRoom P mi me) (QC P Z n0 adr mi c v s' h0) (T.setTop (mkF m pc L (st.map (va (adr + ·)))))
theorem zs_mono (al : List (Nat × Nat)) {a b : Nat} (h : a ≤ b) : zs al a ≤ zs al b := by
  obtain ⟨d, rfl⟩ := Nat.le.dest h
  simp only [zs]
  rw [List.take_add, List.map_append, List.sum_append]; omega
theorem zs_succ (al : List (Nat × Nat)) {c tt N : Nat} (h : al[c]? = some (tt, N)) : zs al (c + 1) = zs al c + N := by
  simp only [zs, List.take_add_one, h]; simp
theorem zs_le (al : List (Nat × Nat)) (a : Nat) : zs al a ≤ zs al al.length := by
  by_cases h : a ≤ al.length
  · exact zs_mono al h
  · simp only [zs]; rw [List.take_of_length_le (by omega), List.take_of_length_le (Nat.le_refl _)]
    exact Nat.le_refl _
theorem narrow_I (z : Int32) : narrow .int (.int z) = .int z := rfl
theorem inb_not {n : Nat} {i : Int32} (h : inb n i) : ¬ (i < 0 ∨ n ≤ i.toNatClampNeg) := by
  intro q
  simp only [Int32.lt_iff_toInt_lt, Int32.toNatClampNeg, Int32.reduceToInt] at q
  have := h.1; have := h.2
  omega
theorem inb_ix {n : Nat} {i : Int32} (h : inb n i) : ix i < n := by
  have := h.1; have := h.2
  simp only [ix, Int32.toNatClampNeg]; omega
end Jvm.LM

namespace Jvm.LM
open Sem ClassFile Op Lib Jvm.Stand Jvm.Free Jvm.LawKit Jvm.RoadKit
/-! entering a method -/
def slA : List Value → List Slot
  | [] => []
  | v :: r => if v.category = 2 then .val v :: .second :: slA r else .val v :: slA r
theorem foldl_slA (as : List Value) (acc : Array Slot) : as.foldl (fun acc v => if v.category = 2 then (acc.push (.val v)).push .second else acc.push (.val v)) acc = acc ++ (slA as).toArray := by
  induction as generalizing acc with
  | nil => simp [slA]
  | cons v r ih =>
    rw [List.foldl_cons, ih]
    simp only [slA]
    split <;> simp
theorem al_eq (args : Array Value) (n : Nat) : argsToLocals args n = (let filled := args.foldl (init := #[]) fun acc v => if v.category = 2 then (acc.push (.val v)).push .second else acc.push (.val v); filled ++ Array.replicate (n - filled.size) .unset) := rfl
theorem atl_eq (as : List Value) (n : Nat) : argsToLocals as.toArray n = (slA as ++ List.replicate (n - (slA as).length) Slot.unset).toArray := by
  rw [al_eq]
  have : Array.foldl (fun acc v => if v.category = 2 then (acc.push (Slot.val v)).push .second else acc.push (.val v)) #[] as.toArray = (slA as).toArray := by
    rw [List.foldl_toArray, foldl_slA]; simp
  simp only [this]
  simp
theorem wfl_one {x : Slot} {l : List Slot} (h : WFf (fun k => l[k]?)) (hx : x ≠ .second) (hc : ∀ v, x = .val v → v.category ≠ 2) : WFf (fun k => (x :: l)[k]?) := by
  obtain ⟨h1, h2, h3⟩ := h
  refine ⟨fun k v hk hv => ?_, fun k hk => ?_, ?_⟩
  · cases k with
    | zero => simp at hk; exact absurd hv (hc v hk)
    | succ k => simp at hk ⊢; exact h1 k v hk hv
  · cases k with
    | zero => simp at hk; exact absurd (by simpa using hk) h3
    | succ k => simp at hk ⊢; exact h2 k (by simpa using hk)
  · simpa using hx
theorem wfl_two {v : Value} {l : List Slot} (h : WFf (fun k => l[k]?)) (hc : v.category = 2) : WFf (fun k => (Slot.val v :: .second :: l)[k]?) := by
  obtain ⟨h1, h2, h3⟩ := h
  refine ⟨fun k w hk hv => ?_, fun k hk => ?_, by simp⟩
  · match k with
    | 0 => simp
    | 1 => simp at hk
    | k + 2 => simp at hk ⊢; exact h1 k w hk hv
  · match k with
    | 0 => exact ⟨v, by simp, hc⟩
    | 1 => exact absurd (by simpa using hk) h3
    | k + 2 => simp at hk ⊢; exact h2 k (by simpa using hk)
theorem wfl_rep (n : Nat) : WFf (fun k => (List.replicate n Slot.unset)[k]?) := by
  refine ⟨fun k v hk _ => ?_, fun k hk => ?_, ?_⟩
  · simp [List.getElem?_replicate] at hk
  · simp [List.getElem?_replicate] at hk
  · simp [List.getElem?_replicate]
theorem wfl_slA (as : List Value) (r : List Slot) (h : WFf (fun k => r[k]?)) : WFf (fun k => (slA as ++ r)[k]?) := by
  induction as with
  | nil => simpa [slA] using h
  | cons v t ih =>
    simp only [slA]
    split
    · rename_i hc; exact wfl_two ih hc
    · rename_i hc; exact wfl_one ih (by simp) (fun w hw => by cases hw; exact hc)
theorem slA_len (ρ : Nat → Nat) (as : List Value) (hd : ∀ v ∈ as, ∀ x, v ≠ .double x) : (slA (as.map (va ρ))).length = (layA as).length := by
  induction as with
  | nil => rfl
  | cons v t ih =>
    have ih := ih fun w hw => hd w (List.mem_cons_of_mem _ hw)
    cases v <;> simp [slA, layA, va, Value.category, ih]
    exact absurd rfl (hd _ (List.mem_cons_self ..) _)
theorem layA_get {ρ : Nat → Nat} {as : List Value} (hd : ∀ v ∈ as, ∀ x, v ≠ .double x) {k : Nat} {w : Value} (h : (layA as)[k]? = some (some w)) : (slA (as.map (va ρ)))[k]? = some (.val (va ρ w)) := by
  induction as generalizing k with
  | nil => simp [layA] at h
  | cons v t ih =>
    have ih' := fun {k} => ih (k := k) fun w hw => hd w (List.mem_cons_of_mem _ hw)
    cases v
    case long x =>
      simp only [layA] at h
      match k with
      | 0 => simp at h; subst h; simp [slA, va, Value.category]
      | 1 => simp at h
      | k + 2 => simp at h; simpa [slA, va, Value.category] using ih' h
    case double x => exact absurd rfl (hd _ (List.mem_cons_self ..) _)
    all_goals
      simp only [layA] at h
      match k with
      | 0 => simp at h; subst h; simp [slA, va, Value.category]
      | k + 1 => simp at h; simpa [slA, va, Value.category] using ih' h
theorem lay_LR {ρ : Nat → Nat} {as : List Value} (hd : ∀ v ∈ as, ∀ x, v ≠ .double x) {n : Nat} (hn : (layA as).length ≤ n) : LR ρ (lay as n) (argsToLocals (as.map (va ρ)).toArray n) := by
  rw [atl_eq]
  have hl := slA_len ρ as hd
  refine ⟨by simp [lay, hl], fun k w hk => ?_, ?_⟩
  · simp only [lay] at hk
    rw [List.getElem?_append] at hk
    split at hk
    · have := layA_get (ρ := ρ) hd hk
      rw [List.getElem?_toArray, List.getElem?_append_left (by omega)]; exact this
    · simp [List.getElem?_replicate] at hk
  · have := wfl_slA (as.map (va ρ)) (List.replicate (n - (slA (as.map (va ρ))).length) Slot.unset) (wfl_rep _)
    have q : WFf (fun k => ((slA (as.map (va ρ)) ++ List.replicate (n - (slA (as.map (va ρ))).length) Slot.unset).toArray)[k]?) := by
      simpa using this
    exact q
theorem lay_len {as : List Value} {n : Nat} (hn : (layA as).length ≤ n) : (lay as n).length = n := by simp [lay]; omega
section Call
variable {p : Program} {l : Launch} {e : Env} {R : Room} {s : State} {m : MethodId} {args : Array Value} {below : List Frame} {meth : Method} {c : Code} {T : State} {locs : List Loc} {cells slots : Nat}
/-- a private method of a class that is no interface -/
theorem privCall (X : Stand p l e R s m args below meth c T locs cells slots) (hexec : p.tables.exec = Jvm.exec) {own : String} {index : Nat} {y : MethodName} {bytes : ByteArray} {maxL nF : Nat} {ret : Option FieldType}
    (hown : s.vm.findClass own = some m.cls) (hlink : (Cond.methodLink own index y).before args s = true) (hinst : (Cond.instanceMethod y).before args s = true) (hi : (Cond.instantiable y.cls nF).before args s = true)
    (hpriv : s.PrivateAt y) (hcode : (Cond.code y bytes maxL ret).before args s = true) (hy : y.cls ≠ "java/lang/invoke/MethodHandle" ∧ y.cls ≠ "java/lang/invoke/VarHandle")
    {W : Nat} {Pre : Free.Pt → Array Value → Prop} {Post : Free.Pt → Array Value → Option Value → Free.Pt → Prop} (hK : Free.Back l R p e below s args y 3 W Pre Post)
    {g : JFrame} (hg : g.method = m) (hsize : g.locals.size = c.maxLocals) {a : Addr} {cell : Cell} (hcell : T.heap[a]? = some cell) (hobj : ∀ q, cell.vm ≠ .statics q)
    {argsL rest : List Value} (hlen : ∀ sig, parseMethodDescriptor y.desc = some sig → argsL.length = sig.parameters.length)
    (hstack : g.stack = argsL.reverse ++ .ref a :: rest) (hW : 2 * g.monitorRoom + (rest.map fun v => v.category).sum ≤ W) (hdg : decode c.code g.pc = .ok (.invokevirtual index, 3))
    (hpre : ∀ vm₁, s.WarmedH vm₁ → Pre ⟨T.setVm vm₁, locs, cells, slots⟩ (.ref a :: argsL).toArray) :
    ∃ (v : Option Value) (vm₁ : Vm) (B : Free.Pt), s.WarmedH vm₁ ∧ Stand p l e R s m args below meth c B.U B.locs B.cells B.slots ∧ Post ⟨T.setVm vm₁, locs, cells, slots⟩ (.ref a :: argsL).toArray v B ∧
      Steps p.tables e below (T.setTop g) (B.U.setTop { g with pc := g.pc + 3, stack := v.toList ++ rest }) := by
  obtain ⟨mk, mM, hnamed, hmM, hst, hab⟩ := Cond.instanceMethod_spec hinst
  obtain ⟨mM', cM, hmM', -, -, -, -, -, -, hsig⟩ := Cond.code_spec hnamed hcode
  cases hmM.symm.trans hmM'
  obtain ⟨cc, kk, i1, i2, -, i4, -⟩ := Cond.instantiable_spec hi
  cases (findClass_of_methodNamed hnamed).symm.trans i1
  have hni : kk.isInterface = false := by
    cases q : kk.isInterface
    · rfl
    · rw [q] at i4; simp at i4
  have hsel : selectMethod e.platform s.vm cell.cls mk = .method mk := selectMethod_private hmM (hpriv mk mM hnamed hmM)
  obtain ⟨vm₁, X₁, hstep⟩ := X.invokevirtual hexec hown hlink hnamed hmM hst i2 hni hy hcell hobj hsel hmM hab i2 hni (g := g) hg (hlen _ hsig) hstack hdg
  obtain ⟨v, B, X', hpost, hs⟩ := hK m meth c ⟨T.setVm vm₁, locs, cells, slots⟩ { g with stack := rest } (.invokevirtual index) mk (.ref a :: argsL).toArray X₁ hg hsize hdg hW (X₁.named hnamed) (hpre vm₁ X₁.warmed)
  exact ⟨v, vm₁, B, X₁.warmed, X', hpost, hstep _ fun acts => by rw [doInvoke_state]; exact hs⟩
end Call
theorem cats_va (ρ : Nat → Nat) (st : List Value) : ((st.map (va ρ)).map fun v => v.category).sum = cats st := by
  simp only [cats, List.map_map]; congr 1; exact List.map_congr_left fun v _ => cat_va ρ v
/-- what a method of the class keeps, as a contract, from its walk -/
theorem met_of_CW {P : Cl} {Z : State} {a0 : Array Value} (LK : LinkC P Z a0) {n0 adr f mi : Nat} {me : Me} (hme : asc P.ms mi = some me) (hW : CW P Z n0 adr f mi me) (l : Launch) {bytes : ByteArray}
    (hdec : ∀ pc i n, fetch me.cd pc = some (i, n) → decode bytes pc = .ok (i, n) ∧ (isSw i = true ∨ n = ilen i))
    {as : List Value} (hd : ∀ v ∈ as, ∀ x, v ≠ .double x) (hlen : (layA as).length ≤ me.ml) {c : Nat} {s s' : St} {v : Option Value} {h : Heap} (hr : cexec P f mi me c 0 (lay as me.ml) [] s = some (v, s')) (hc : mi = 0 → c = 0)
    (H : HRep P Z h adr c s) (hsz : mi = 0 → h.size = adr + 1) :
    MetFree l (yOf P me) (head1 [Cond.code (yOf P me) bytes me.ml (retOf me.rt)] (cRoom P mi me)) (fun a U => a = (as.map (va (adr + ·))).toArray ∧ Z.Warmed39 U.vm ∧ U.heap = h) (fun _ _ _ _ _ => True)
      (fun _ U o U' => ∃ w L, o = .returned w ∧ QC P Z n0 adr mi c v s' h w U'.heap L ∧ FrameEnd U o U' L (cRoom P mi me).cells (cRoom P mi me).slots) := by
  refine MetFree.of_bodySF (plainFor_of_name LK.2.2.2.2.2.2.2.2.2.2.1) hisR ?_
  intro p e s₀ m args below meth cd s₁ Bd hml hP hK
  obtain ⟨rfl, hZ, hh⟩ := hP
  have e0 : s₁.heap = h := by rw [← hh, Bd.state]; rfl
  have X0 : Stand p l e (cRoom P mi me) s₀ m _ below meth cd s₁ [] 0 0 := Stand.of_body Bd
  have hown : s₀.vm.findClass P.nm = some m.cls := findClass_of_methodNamed Bd.named
  have hnm : meth.name = me.nm := (name_of_methodNamed Bd.named Bd.method).1
  have hk0 : co mi c = 0 := by simp only [co]; split; · rename_i q; exact hc q
                               · rfl
  have hz0 : zo P mi c = 0 := by
    simp only [zo]; split
    · rename_i q; rw [hc q]; simp [zs]
    · rfl
  have D := hW p l e s₀ m _ below meth cd s₁ [] h c 0 (lay as me.ml) [] s v s' _ Bd.exec hZ hown hnm Bd.returns hml Bd.notSynchronized (fun q => by rw [hh]; exact hsz q)
    (fun pc i n q => by rw [Bd.bytes]; exact hdec pc i n q) hr (by rw [hk0, hz0]; exact X0)
    ⟨by rw [e0]; exact H, Fr.nil n0, by rw [e0]; exact fun x _ => rfl, by
      rw [e0]; split
      · rename_i q; rw [hsz q, hc q]
      · rfl⟩ (lay_LR hd hlen) (lay_len hlen)
  obtain ⟨s₂, o, a1, a2, a3, w, L, a4, a5, a6⟩ := D
  exact ⟨s₂, o, a1, a2, a3, w, L, a4, a5, a6⟩
end Jvm.LM

namespace Jvm.LM
open Sem ClassFile Op Lib Jvm.Stand Jvm.Free Jvm.LawKit Jvm.RoadKit
section Steps
variable {p : Program} {l : Launch} {e : Env} {R : Room} {s₀ : State} {m : MethodId} {args : Array Value} {below : List Frame} {meth : Method} {cd : Code} {T : State} {locs : List Loc} {cells slots : Nat}
variable {P : Cl} {Z : State} {a0 : Array Value} {n0 adr c mi : Nat} {s s' : St} {h0 : Heap}
theorem gfld_val {x : Nat} {w : Value} (hg : gfld P x c s = some w) : ∃ k fe, asc P.fx x = some k ∧ asc P.fs k = some fe ∧ Fval adr c s k fe = va (adr + ·) w := by
  unfold gfld at hg
  split at hg
  · cases hg
  · rename_i k e1
    split at hg
    · cases hg
    · rename_i fe e2
      refine ⟨k, fe, e1, e2, ?_⟩
      simp only [Fval]
      split at hg
      · rename_i e3; cases hg; first | rfl | (rw [e3]; rfl)
      · rename_i e3; cases hg; first | rfl | (rw [e3]; rfl)
      · rename_i e3; cases hg; first | rfl | (rw [e3]; rfl)
      · rename_i j e3
        split at hg
        · rename_i e4; cases hg; first | (simp only [if_pos e4]; rfl) | (rw [e3]; simp only [if_pos e4]; rfl)
        · cases hg
theorem st_get (LK : LinkC P Z a0) (X : Stand p l e R s₀ m args below meth cd T locs cells slots) (hx : p.tables.exec = Jvm.exec) (hZ : Z.Warmed39 s₀.vm) (hown : s₀.vm.findClass P.nm = some m.cls) (H : HRep P Z T.heap adr c s) {x pc : Nat} {w : Value} (hg : gfld P x c s = some w)
    (hd : decode cd.code pc = .ok (.getfield x, 3)) {L : Array Slot} {r : List Value} :
    ∃ T', Stand p l e R s₀ m args below meth cd T' locs cells slots ∧ T'.heap = T.heap ∧ ∀ t, Steps p.tables e below (T'.setTop (mkF m (pc + 3) L (va (adr + ·) w :: r))) t → Steps p.tables e below (T.setTop (mkF m pc L (.ref adr :: r))) t := by
  obtain ⟨k, fe, e1, e2, e3⟩ := gfld_val (adr := adr) hg
  have F := H.2.1 k fe e2
  rw [e3] at F
  exact getF X hx hZ hown (host := "") (Or.inl (LK.2.1 _ _ e1 _ e2)) Via.refl rfl F (g := mkF m pc L (.ref adr :: r)) rfl rfl hd
theorem st_put (LK : LinkC P Z a0) (X : Stand p l e R s₀ m args below meth cd T locs cells slots) (hx : p.tables.exec = Jvm.exec) (hZ : Z.Warmed39 s₀.vm) (hown : s₀.vm.findClass P.nm = some m.cls) (hna : n0 ≤ adr) (I : Inv P Z n0 adr mi c s h0 T.heap locs) {x pc : Nat} {w : Value} {ini : Bool} (hini : ini = true → meth.name = "<init>") (hg : pfld P x ini w s = some s')
    (hd : decode cd.code pc = .ok (.putfield x, 3)) {L : Array Slot} {r : List Value} :
    ∃ T' locs', Stand p l e R s₀ m args below meth cd T' locs' cells slots ∧ Inv P Z n0 adr mi c s' h0 T'.heap locs' ∧ ∀ t, Steps p.tables e below (T'.setTop (mkF m (pc + 3) L r)) t → Steps p.tables e below (T.setTop (mkF m pc L (w :: .ref adr :: r))) t := by
  obtain ⟨H, hFr, hK, hS⟩ := I
  obtain ⟨nF, hnF⟩ := LK.1.1
  unfold pfld at hg
  split at hg
  · cases hg
  · rename_i k e1
    split at hg
    · cases hg
    · rename_i fe e2
      split at hg
      · cases hg
      · rename_i e3
        have hL : (Cond.lays P.nm P.nm fe.1 fe.2.1).before a0 Z = true ∨ ((Cond.laysFinal P.nm P.nm fe.1 fe.2.1).before a0 Z = true ∧ P.nm = P.nm ∧ meth.name = "<init>") := by
          have q := LK.2.2.1 k fe e2
          split at q
          · rename_i e4
            refine Or.inr ⟨q, rfl, hini ?_⟩
            cases ini
            · exact absurd ⟨e4, rfl⟩ e3
            · rfl
          · exact Or.inl q
        have hp := LK.2.2.2.1 k fe e2
        have fin : ∀ {T' : State} {h' : Heap} {v' : Value}, Stand p l e R s₀ m args below meth cd T' (locs ++ [⟨adr, RoadKit.slotOf Z P.nm fe.1 fe.2.1⟩]) cells slots → T'.heap = h' → Wr T.heap h' adr (RoadKit.slotOf Z P.nm fe.1 fe.2.1) v' → v' = Fval adr c s' k fe →
            (∀ a b, (a ≠ 0 ∨ b ≠ k) → gI s' a b = gI s a b ∧ gL s' a b = gL s a b) → Inv P Z n0 adr mi c s' h0 T'.heap (locs ++ [⟨adr, RoadKit.slotOf Z P.nm fe.1 fe.2.1⟩]) := fun {T' h' v'} X' e4 W e5 e6 => by
          rw [e4]
          exact ⟨H.putFld LK e2 W e5 e6, Fr.snoc X' hFr hna, hK.wr W (Nat.le_refl _) (by omega), by rw [W.size]; exact hS⟩
        split at hg
        · rename_i z e4
          cases hg
          rw [e4] at hp
          obtain ⟨T', h', X', q1, W, st⟩ := putF X hx hZ hown (host := "") (Or.inl (LK.2.1 _ _ e1 _ e2)) Via.refl rfl (H.2.1 k fe e2) H.1 hL hnF hp (narrow_I z) rfl (g := mkF m pc L (.int z :: .ref adr :: r)) rfl rfl hd
          refine ⟨T', _, X', fin X' q1 W (by simp only [Fval, e4]; simp [gI_sI]) (fun a b hab => ?_), st⟩
          rw [gI_sI, gL_sI, if_neg (by omega)]; exact ⟨rfl, rfl⟩
        · rename_i z e4
          cases hg
          rw [e4] at hp
          obtain ⟨T', h', X', q1, W, st⟩ := putFN X hx hZ hown (LK.2.1 _ _ e1 _ e2) Via.refl rfl (H.2.1 k fe e2) H.1 hL hnF (v' := .int (z &&& 1)) hp rfl (fits_nar_bool z) (g := mkF m pc L (.int z :: .ref adr :: r)) rfl rfl hd
          refine ⟨T', _, X', fin X' q1 W (by simp only [Fval, e4]; simp [gI_sI]) (fun a b hab => ?_), st⟩
          rw [gI_sI, gL_sI, if_neg (by omega)]; exact ⟨rfl, rfl⟩
        · rename_i z e4
          cases hg
          rw [e4] at hp
          obtain ⟨T', h', X', q1, W, st⟩ := putF X hx hZ hown (host := "") (Or.inl (LK.2.1 _ _ e1 _ e2)) Via.refl rfl (H.2.1 k fe e2) H.1 hL hnF hp rfl rfl (g := mkF m pc L (.long z :: .ref adr :: r)) rfl rfl hd
          refine ⟨T', _, X', fin X' q1 W (by simp only [Fval, e4]; simp [gL_sL]) (fun a b hab => ?_), st⟩
          rw [gL_sL, gI_sL, if_neg (by omega)]; exact ⟨rfl, rfl⟩
        · cases hg
theorem lda_spec {tt : Nat} {st st' : List Value} (hl : lda P tt c st s = some st') : ∃ i a r N, st = .int i :: .ref (a + 1) :: r ∧ P.al[a]? = some (tt, N) ∧ a < c ∧ inb N i ∧ st' = elv tt s (a + 1) (ix i) :: r := by
  unfold lda at hl
  split at hl
  · rename_i i a r
    split at hl
    · rename_i t2 N e1
      split at hl
      · rename_i e2
        obtain ⟨rfl, e3⟩ := e2
        split at hl
        · rename_i e4; cases hl; exact ⟨i, a, r, N, rfl, e1, e3, e4, rfl⟩
        · cases hl
      · cases hl
    · cases hl
  · cases hl
theorem va_elv (ρ : Nat → Nat) (tt : Nat) (s : St) (j i : Nat) : va ρ (elv tt s j i) = elv tt s j i := by unfold elv; split <;> rfl
theorem st_lda (X : Stand p l e R s₀ m args below meth cd T locs cells slots) (hx : p.tables.exec = Jvm.exec) (hZ : Z.Warmed39 s₀.vm) (H : HRep P Z T.heap adr c s) {tt pc : Nat} {st st' : List Value} (hl : lda P tt c st s = some st') {i : Instr}
    (hi : (tt = 0 ∧ i = .iaload) ∨ (tt = 1 ∧ i = .baload) ∨ (tt = 2 ∧ i = .laload)) (hd : decode cd.code pc = .ok (i, 1)) {L : Array Slot} :
    ∀ t, Steps p.tables e below (T.setTop (mkF m (pc + 1) L (st'.map (va (adr + ·))))) t → Steps p.tables e below (T.setTop (mkF m pc L (st.map (va (adr + ·))))) t := by
  obtain ⟨j, a, r, N, rfl, e1, e2, e3, rfl⟩ := lda_spec hl
  obtain ⟨cl, A, hN, hv⟩ := H.2.2.1 a tt N e1 e2
  have hin : ¬ (j < 0 ∨ cl.slots.size ≤ j.toNatClampNeg) := by rw [hN]; exact inb_not e3
  have hat : cl.slots[j.toNatClampNeg]? = some (elv tt s (a + 1) (ix j)) := hv (ix j) (inb_ix e3)
  intro t q
  rw [List.map_cons, va_elv] at q
  rcases hi with ⟨rfl, rfl⟩ | ⟨rfl, rfl⟩ | ⟨rfl, rfl⟩
  · exact X.iaload hx A.1 (State.isArrayOf_alike hZ.alike A.2.1) A.2.2 hin hat (g := mkF m pc L (.int j :: .ref (adr + (a + 1)) :: r.map (va (adr + ·)))) rfl rfl hd t q
  · exact X.baloadBooleans hx A.1 (State.isArrayOf_alike hZ.alike A.2.1) A.2.2 hin hat (g := mkF m pc L (.int j :: .ref (adr + (a + 1)) :: r.map (va (adr + ·)))) rfl rfl hd t q
  · exact X.laload hx A.1 (State.isArrayOf_alike hZ.alike A.2.1) A.2.2 hin hat (g := mkF m pc L (.int j :: .ref (adr + (a + 1)) :: r.map (va (adr + ·)))) rfl rfl hd t q
theorem sta_spec {tt : Nat} {st st' : List Value} (hl : sta P tt c st s = some (st', s')) : ∃ v i a N, st = v :: .int i :: .ref (a + 1) :: st' ∧ P.al[a]? = some (tt, N) ∧ a < c ∧ inb N i ∧
    ((tt = 0 ∧ ∃ z, v = .int z ∧ s' = sI s (a + 1) (ix i) z) ∨ (tt = 1 ∧ ∃ z, v = .int z ∧ s' = sI s (a + 1) (ix i) (z &&& 1)) ∨ (tt = 2 ∧ ∃ z, v = .long z ∧ s' = sL s (a + 1) (ix i) z)) := by
  unfold sta at hl
  split at hl
  · rename_i v i a r
    split at hl
    · rename_i t2 N e1
      split at hl
      · rename_i e2
        obtain ⟨rfl, e3⟩ := e2
        split at hl
        · rename_i e4
          split at hl
          · cases hl; exact ⟨_, i, a, N, rfl, e1, e3, e4, Or.inl ⟨rfl, _, rfl, rfl⟩⟩
          · cases hl; exact ⟨_, i, a, N, rfl, e1, e3, e4, Or.inr (Or.inl ⟨rfl, _, rfl, rfl⟩)⟩
          · cases hl; exact ⟨_, i, a, N, rfl, e1, e3, e4, Or.inr (Or.inr ⟨rfl, _, rfl, rfl⟩)⟩
          · cases hl
        · cases hl
      · cases hl
    · cases hl
  · cases hl
theorem st_sta (X : Stand p l e R s₀ m args below meth cd T locs cells slots) (hx : p.tables.exec = Jvm.exec) (hZ : Z.Warmed39 s₀.vm) (hna : n0 ≤ adr) (I : Inv P Z n0 adr mi c s h0 T.heap locs) {tt pc : Nat} {st st' : List Value} (hl : sta P tt c st s = some (st', s')) {i : Instr}
    (hi : (tt = 0 ∧ i = .iastore) ∨ (tt = 1 ∧ i = .bastore) ∨ (tt = 2 ∧ i = .lastore)) (hd : decode cd.code pc = .ok (i, 1)) {L : Array Slot} :
    ∃ T' locs', Stand p l e R s₀ m args below meth cd T' locs' cells slots ∧ Inv P Z n0 adr mi c s' h0 T'.heap locs' ∧ ∀ t, Steps p.tables e below (T'.setTop (mkF m (pc + 1) L (st'.map (va (adr + ·))))) t → Steps p.tables e below (T.setTop (mkF m pc L (st.map (va (adr + ·))))) t := by
  obtain ⟨H, hFr, hK, hS⟩ := I
  obtain ⟨v, j, a, N, rfl, e1, e2, e3, e4⟩ := sta_spec hl
  obtain ⟨cl, A, hN, hv⟩ := H.2.2.1 a tt N e1 e2
  have hin : ¬ (j < 0 ∨ cl.slots.size ≤ j.toNatClampNeg) := by rw [hN]; exact inb_not e3
  have hal := (List.getElem?_eq_some_iff.mp e1).1
  have fin : ∀ {T' : State} {h' : Heap} {v' : Value}, Stand p l e R s₀ m args below meth cd T' (locs ++ [⟨adr + (a + 1), j.toNatClampNeg⟩]) cells slots → T'.heap = h' → Wr T.heap h' (adr + (a + 1)) j.toNatClampNeg v' → v' = elv tt s' (a + 1) (ix j) →
      (∀ x y, (x ≠ a + 1 ∨ y ≠ ix j) → gI s' x y = gI s x y ∧ gL s' x y = gL s x y) → Inv P Z n0 adr mi c s' h0 T'.heap (locs ++ [⟨adr + (a + 1), j.toNatClampNeg⟩]) := fun {T' h' v'} X' q1 W q2 q3 => by
    rw [q1]
    exact ⟨H.putArr e1 e2 (inb_ix e3) W q2 q3, Fr.snoc X' hFr (by omega), hK.wr W (by omega) (by omega), by rw [W.size]; exact hS⟩
  rcases e4 with ⟨rfl, z, rfl, rfl⟩ | ⟨rfl, z, rfl, rfl⟩ | ⟨rfl, z, rfl, rfl⟩
  · obtain ⟨-, rfl⟩ : (0 : Nat) = 0 ∧ i = .iastore := by rcases hi with q | q | q <;> first | exact q | (have := q.1; omega)
    obtain ⟨T', h', X', q1, W, st⟩ := stI X hx hZ rfl A hin (g := mkF m pc L (.int z :: .int j :: .ref (adr + (a + 1)) :: st'.map (va (adr + ·)))) rfl rfl hd
    refine ⟨T', _, X', fin X' q1 W (by simp [elv, gI_sI, ix]) (fun x y hxy => ?_), st⟩
    rw [gI_sI, gL_sI, if_neg (fun q => hxy.elim (fun z => z q.1) (fun z => z q.2))]; exact ⟨rfl, rfl⟩
  · obtain ⟨-, rfl⟩ : (1 : Nat) = 1 ∧ i = .bastore := by rcases hi with q | q | q <;> first | exact q | (have := q.1; omega)
    obtain ⟨T', h', X', q1, W, st⟩ := stZ X hx hZ rfl A hin (g := mkF m pc L (.int z :: .int j :: .ref (adr + (a + 1)) :: st'.map (va (adr + ·)))) rfl rfl hd
    refine ⟨T', _, X', fin X' q1 W (by simp [elv, gI_sI, ix, nar]) (fun x y hxy => ?_), st⟩
    rw [gI_sI, gL_sI, if_neg (fun q => hxy.elim (fun z => z q.1) (fun z => z q.2))]; exact ⟨rfl, rfl⟩
  · obtain ⟨-, rfl⟩ : (2 : Nat) = 2 ∧ i = .lastore := by rcases hi with q | q | q <;> first | exact q | (have := q.1; omega)
    obtain ⟨T', h', X', q1, W, st⟩ := stJ X hx hZ rfl A hin (g := mkF m pc L (.long z :: .int j :: .ref (adr + (a + 1)) :: st'.map (va (adr + ·)))) rfl rfl hd
    refine ⟨T', _, X', fin X' q1 W (by simp [elv, gL_sL, ix]) (fun x y hxy => ?_), st⟩
    rw [gL_sL, gI_sL, if_neg (fun q => hxy.elim (fun z => z q.1) (fun z => z q.2))]; exact ⟨rfl, rfl⟩
theorem newF_spec {t : ArrayType} {code : Cd} {pc : Nat} {st : List Value} (h : newF P t code pc c st = true) : ∃ n x k fe tt N, st = [.int n, .ref 0] ∧ fetch code (pc + 2) = some (.putfield x, 3) ∧ asc P.fx x = some k ∧ asc P.fs k = some fe ∧ P.al[c]? = some (tt, N) ∧
    fe.2.2.1 = c + 3 ∧ t = atOf tt ∧ 0 ≤ n.toInt ∧ n.toInt = N ∧ N < 1000000 := by
  unfold newF at h
  split at h
  · rename_i n
    split at h
    · rename_i x e1
      split at h
      · rename_i k e2
        split at h
        · rename_i fe e3
          split at h
          · rename_i tt N e4
            obtain ⟨q1, q2, q3, q4, q5⟩ := of_decide_eq_true h
            exact ⟨n, x, k, fe, tt, N, rfl, e1, e2, e3, e4, q1, q2, q3, q4, q5⟩
          · cases h
        · cases h
      · cases h
    · cases h
  · cases h
theorem ty_at {tt : Nat} (h : tt ≤ 2) : newarray.typeOf (atOf tt) = tyOf tt := by
  have : tt = 0 ∨ tt = 1 ∨ tt = 2 := by omega
  rcases this with rfl | rfl | rfl <;> rfl
theorem st_new (LK : LinkC P Z a0) {me : Me} (hme : asc P.ms 0 = some me) (hnm : meth.name = me.nm) (X : Stand p l e (cRoom P 0 me) s₀ m args below meth cd T locs (co 0 c) (zo P 0 c)) (hx : p.tables.exec = Jvm.exec) (hZ : Z.Warmed39 s₀.vm) (hown : s₀.vm.findClass P.nm = some m.cls) (hna : n0 ≤ adr) (hs0 : s₀.heap.size = adr + 1) (I : Inv P Z n0 adr 0 c s h0 T.heap locs)
    (hdec : ∀ pc i n, fetch me.cd pc = some (i, n) → decode cd.code pc = .ok (i, n) ∧ (isSw i = true ∨ n = ilen i)) {t : ArrayType} {pc : Nat} {st : List Value} (h : newF P t me.cd pc c st = true) (hd : decode cd.code pc = .ok (.newarray t, 2)) {L : Array Slot} :
    ∃ T' locs', Stand p l e (cRoom P 0 me) s₀ m args below meth cd T' locs' (co 0 (c + 1)) (zo P 0 (c + 1)) ∧ Inv P Z n0 adr 0 (c + 1) s h0 T'.heap locs' ∧ ∀ t, Steps p.tables e below (T'.setTop (mkF m (pc + 5) L [])) t → Steps p.tables e below (T.setTop (mkF m pc L (st.map (va (adr + ·))))) t := by
  obtain ⟨H, hFr, hK, hS⟩ := I
  obtain ⟨nF, hnF⟩ := LK.1.1
  obtain ⟨n, x, k, fe, tt, N, rfl, e1, e2, e3, e4, e5, rfl, e6, e7, e8⟩ := newF_spec h
  obtain ⟨htt, hac⟩ := LK.2.2.2.2.2.1 _ _ _ e4
  have hal := (List.getElem?_eq_some_iff.mp e4).1
  have hS' : T.heap.size = adr + 1 + c := hS
  have hty := ty_at htt
  have hini : meth.name = "<init>" := by rw [hnm]; exact LK.2.2.2.2.2.2.2.2.2.2.2.2 me hme
  have hLy : (Cond.lays P.nm P.nm fe.1 fe.2.1).before a0 Z = true ∨ ((Cond.laysFinal P.nm P.nm fe.1 fe.2.1).before a0 Z = true ∧ P.nm = P.nm ∧ meth.name = "<init>") := by
    have q := LK.2.2.1 k fe e3
    split at q
    · exact Or.inr ⟨q, rfl, hini⟩
    · exact Or.inl q
  have hzc := zs_succ P.al e4
  have hzm := zs_le P.al (c + 1)
  obtain ⟨T1, hp1, cA, X1, q1, E, A, st1⟩ := newP X hx hZ (aty := atOf tt) (by rw [hty]; exact hac) rfl (g := mkF m pc L [.int n, .ref adr]) rfl hd rfl (by rw [Int32.lt_iff_toInt_lt]; simp only [Int32.reduceToInt]; omega) (cap := N)
    (by simp only [Int32.toNatClampNeg]; omega) (by omega) (by simp only [co, cRoom, if_true]; omega) (by simp only [zo, cRoom, if_true]; omega)
  rw [hty] at A
  have hp := LK.2.2.2.1 k fe e3
  rw [e5] at hp
  obtain ⟨d2, -⟩ := hdec _ _ _ e1
  have hsz1 : hp1.size = adr + 1 + (c + 1) := by
    have hh : T1.heap.size ≤ s₀.heap.size + (c + 1) := X1.heapSize
    have g2 : T.heap.size < Array.size hp1 := A.lt
    rw [q1, hs0] at hh
    rw [hS'] at g2
    omega
  obtain ⟨T2, hp2, X2, q2, W, st2⟩ := putF X1 hx hZ hown (host := "") (Or.inl (LK.2.1 _ _ e2 _ e3)) Via.refl q1 ((H.2.1 k fe e3).ext E) (H.1.ext E) hLy hnF (v := .ref T.heap.size) hp rfl rfl (g := mkF m (pc + 2) L [.ref T.heap.size, .ref adr]) rfl rfl d2
  refine ⟨T2, _, by simpa [co, zo, hzc] using X2, ?_, fun t q => st1 _ (st2 _ q)⟩
  rw [q2]
  refine ⟨H.newArr LK e3 e5 e4 e6 e7 hS' E A W, Fr.snoc X2 hFr hna, ?_, by rw [W.size, hsz1]; simp⟩
  exact (hK.ext E (by rw [hsz1]; omega) (by omega)).wr W (Nat.le_refl _) (by omega)
end Steps
end Jvm.LM

namespace Jvm.LM
open Sem ClassFile Op Lib Jvm.Stand Jvm.Free Jvm.LawKit Jvm.RoadKit
theorem cret_spec {me : Me} {st : List Value} {i : Instr} {v : Option Value} (h : cret me st i = some v) :
    (∃ x, i = .ireturn ∧ st = [.int x] ∧ ((me.rt = 1 ∧ v = some (.int x)) ∨ (me.rt = 2 ∧ v = some (.int (x &&& 1))))) ∨ (∃ x, i = .lreturn ∧ st = [.long x] ∧ me.rt = 3 ∧ v = some (.long x)) ∨ (i = .return_ ∧ st = [] ∧ me.rt = 0 ∧ v = none) := by
  unfold cret at h
  split at h
  · split at h
    · rename_i x
      split at h
      · rename_i e1; cases h; exact Or.inl ⟨x, rfl, rfl, Or.inl ⟨e1, rfl⟩⟩
      · split at h
        · rename_i e1; cases h; exact Or.inl ⟨x, rfl, rfl, Or.inr ⟨e1, rfl⟩⟩
        · cases h
    · cases h
  · split at h
    · rename_i x
      split at h
      · rename_i e1; cases h; exact Or.inr (Or.inl ⟨x, rfl, rfl, e1, rfl⟩)
      · cases h
    · cases h
  · split at h
    · split at h
      · rename_i e1; cases h; exact Or.inr (Or.inr ⟨rfl, rfl, e1, rfl⟩)
      · cases h
    · cases h
  · cases h
section Ret
variable {p : Program} {l : Launch} {e : Env} {R : Room} {s₀ : State} {m : MethodId} {args : Array Value} {below : List Frame} {meth : Method} {cd : Code} {T : State} {locs : List Loc} {cells slots : Nat}
theorem retI' (X : Stand p l e R s₀ m args below meth cd T locs cells slots) (hx : p.tables.exec = Jvm.exec) {pc : Nat} {Ls : Array Slot} {z : Int32} {rest : List Value} (hret : meth.sig.returnType = some .int) (hd : decode cd.code pc = .ok (.ireturn, 1)) {fs : List Frame}
    (hl : ∀ (f : JFrame) (acts : List Action), f.method = m → f.locked = none → f.entered = [] → (doReturn e (T.setTop f) acts (some (.int z))).1 = T.setFrames fs) : Steps p.tables e below (T.setTop (mkF m pc Ls (.int z :: rest))) (T.setFrames fs) :=
  retOut X hx (t := .int) (i := .ireturn) hret rfl (Or.inl ⟨rfl, Or.inl rfl, z, rfl⟩) hd hl
theorem st_ret (X : Stand p l e R s₀ m args below meth cd T locs cells slots) (hx : p.tables.exec = Jvm.exec) {me : Me} (hret : meth.sig.returnType = retOf me.rt) (hlk : meth.locks = false) {ρ : Nat → Nat} {st : List Value} {i : Instr} {v : Option Value} (h : cret me st i = some v) {pc n : Nat} (hd : decode cd.code pc = .ok (i, n)) (hn : isSw i = true ∨ n = ilen i)
    {Q : Option Value → Heap → List Loc → Prop} (hQ : Q v T.heap locs) (hc : cells ≤ R.cells) (hs : slots ≤ R.slots) {L : Array Slot} : Don p e below s₀ R Q (T.setTop (mkF m pc L (st.map (va ρ)))) := by
  rcases cret_spec h with ⟨x, rfl, rfl, h1⟩ | ⟨x, rfl, rfl, h1, rfl⟩ | ⟨rfl, rfl, h1, rfl⟩
  · obtain rfl := hn.resolve_left Bool.false_ne_true
    rcases h1 with ⟨h1, rfl⟩ | ⟨h1, rfl⟩
    · rw [h1] at hret
      obtain ⟨fs, hr, hrun, hended, hW, hsame⟩ := X.leave (v := some (.int x)) (fun q => by rw [hret] at q; cases q) hlk
      exact ⟨_, _, retI' X hx hret hd hr, hrun, hended, _, _, rfl, hQ, ⟨_, rfl⟩, hW, hsame.mono hc hs⟩
    · rw [h1] at hret
      obtain ⟨fs, hr, hrun, hended, hW, hsame⟩ := X.leave (v := some (.int (x &&& 1))) (fun q => by rw [hret] at q; cases q) hlk
      exact ⟨_, _, retN X hx (t := .boolean) hret (Or.inl rfl) hd hr, hrun, hended, _, _, rfl, hQ, ⟨_, rfl⟩, hW, hsame.mono hc hs⟩
  · obtain rfl := hn.resolve_left Bool.false_ne_true
    rw [h1] at hret
    obtain ⟨fs, hr, hrun, hended, hW, hsame⟩ := X.leave (v := some (.long x)) (fun q => by rw [hret] at q; cases q) hlk
    exact ⟨_, _, retOut X hx (t := .long) (i := .lreturn) hret rfl (Or.inr (Or.inl ⟨rfl, rfl, x, rfl⟩)) hd hr, hrun, hended, _, _, rfl, hQ, ⟨_, rfl⟩, hW, hsame.mono hc hs⟩
  · obtain rfl := hn.resolve_left Bool.false_ne_true
    rw [h1] at hret
    obtain ⟨fs, hr, hrun, hended, hW, hsame⟩ := X.leave (v := none) (fun _ => rfl) hlk
    exact ⟨_, _, X.returnOut hx hret hd hr, hrun, hended, _, _, rfl, hQ, ⟨_, rfl⟩, hW, hsame.mono hc hs⟩
end Ret
theorem cret_va {me : Me} {st : List Value} {i : Instr} {v : Option Value} (h : cret me st i = some v) (ρ : Nat → Nat) : v.toList.map (va ρ) = v.toList := by
  rcases cret_spec h with ⟨x, rfl, rfl, ⟨-, rfl⟩ | ⟨-, rfl⟩⟩ | ⟨x, rfl, rfl, -, rfl⟩ | ⟨rfl, rfl, -, rfl⟩ <;> rfl
theorem nd_rev {ρ : Nat → Nat} {as : List Value} (h : nd as = true) : ∀ v ∈ (Value.ref 0 :: as.reverse), ∀ x, v ≠ .double x := fun v hv x e => by
  rcases List.mem_cons.mp hv with q | q
  · subst q; cases e
  · exact nd_spec h v (List.mem_reverse.mp q) x e
theorem pfld_va {P : Cl} {x : Nat} {ini : Bool} {w : Value} {s s1 : St} (hg : pfld P x ini w s = some s1) (ρ : Nat → Nat) : va ρ w = w := by
  cases w <;> first | rfl | skip
  exfalso
  unfold pfld at hg
  split at hg
  · cases hg
  · split at hg
    · cases hg
    · split at hg
      · cases hg
      · split at hg
        · rename_i q; cases q
        · rename_i q; cases q
        · rename_i q; cases q
        · cases hg
theorem cwalk {P : Cl} {Z : State} {a0 : Array Value} (LK : LinkC P Z a0) {n0 adr : Nat} (hna : n0 ≤ adr) : ∀ f mi me, asc P.ms mi = some me → CW P Z n0 adr f mi me := by
  intro f
  induction f with
  | zero =>
    intro mi me hme p l e s₀ m args below meth cd T locs h0 c pc ls st s v s' L hx hZ hown hnm hret hml hlk hs0 hdec hr
    cases hr
  | succ f ih =>
    intro mi me hme p l e s₀ m args below meth cd T locs h0 c pc ls st s v s' L hx hZ hown hnm hret hml hlk hs0 hdec hr X I hL hlen
    simp only [cexec] at hr
    split at hr
    · cases hr
    · rename_i i n hf
      obtain ⟨hd, hn⟩ := hdec pc i n hf
      have ihk := ih mi me hme
      have hsize : L.size = cd.maxLocals := by rw [hL.1, hlen, hml]
      obtain ⟨nF, hnF⟩ := LK.1.1
      unfold cstep at hr
      split at hr
      -- getfield
      · obtain rfl := hn.resolve_left Bool.false_ne_true
        split at hr
        · rename_i r
          split at hr
          · rename_i w hg
            obtain ⟨T', X', q1, st⟩ := st_get LK X hx hZ hown I.1 hg hd (L := L) (r := r.map (va (adr + ·)))
            exact Don.step st (ihk p l e s₀ m args below meth cd T' locs h0 c _ ls (w :: r) s v s' L hx hZ hown hnm hret hml hlk hs0 hdec hr X' (by rw [q1]; exact I) hL hlen)
          · cases hr
        · cases hr
      -- putfield
      · obtain rfl := hn.resolve_left Bool.false_ne_true
        split at hr
        · rename_i w r
          split at hr
          · rename_i s1 hg
            have hini : (mi == 0) = true → meth.name = "<init>" := fun q => by
              have q : mi = 0 := by simpa using q
              subst q; rw [hnm]; exact LK.2.2.2.2.2.2.2.2.2.2.2.2 me hme
            have hw : va (adr + ·) w = w := pfld_va hg _
            obtain ⟨T', locs', X', I', st⟩ := st_put LK X hx hZ hown hna I hini hg hd (L := L) (r := r.map (va (adr + ·)))
            refine Don.step (fun t q => ?_) (ihk p l e s₀ m args below meth cd T' locs' h0 c _ ls r s1 v s' L hx hZ hown hnm hret hml hlk hs0 hdec hr X' I' hL hlen)
            have := st t q
            rw [List.map_cons, hw]; exact this
          · cases hr
        · cases hr
      -- loads of arrays
      · obtain rfl := hn.resolve_left Bool.false_ne_true
        split at hr
        · rename_i st' hg
          exact Don.step (st_lda X hx hZ I.1 hg (Or.inl ⟨rfl, rfl⟩) hd) (ihk p l e s₀ m args below meth cd T locs h0 c _ ls st' s v s' L hx hZ hown hnm hret hml hlk hs0 hdec hr X I hL hlen)
        · cases hr
      · obtain rfl := hn.resolve_left Bool.false_ne_true
        split at hr
        · rename_i st' hg
          exact Don.step (st_lda X hx hZ I.1 hg (Or.inr (Or.inl ⟨rfl, rfl⟩)) hd) (ihk p l e s₀ m args below meth cd T locs h0 c _ ls st' s v s' L hx hZ hown hnm hret hml hlk hs0 hdec hr X I hL hlen)
        · cases hr
      · obtain rfl := hn.resolve_left Bool.false_ne_true
        split at hr
        · rename_i st' hg
          exact Don.step (st_lda X hx hZ I.1 hg (Or.inr (Or.inr ⟨rfl, rfl⟩)) hd) (ihk p l e s₀ m args below meth cd T locs h0 c _ ls st' s v s' L hx hZ hown hnm hret hml hlk hs0 hdec hr X I hL hlen)
        · cases hr
      -- stores into arrays
      · obtain rfl := hn.resolve_left Bool.false_ne_true
        split at hr
        · rename_i st' s1 hg
          obtain ⟨T', locs', X', I', st⟩ := st_sta X hx hZ hna I hg (Or.inl ⟨rfl, rfl⟩) hd (L := L)
          exact Don.step st (ihk p l e s₀ m args below meth cd T' locs' h0 c _ ls st' s1 v s' L hx hZ hown hnm hret hml hlk hs0 hdec hr X' I' hL hlen)
        · cases hr
      · obtain rfl := hn.resolve_left Bool.false_ne_true
        split at hr
        · rename_i st' s1 hg
          obtain ⟨T', locs', X', I', st⟩ := st_sta X hx hZ hna I hg (Or.inr (Or.inl ⟨rfl, rfl⟩)) hd (L := L)
          exact Don.step st (ihk p l e s₀ m args below meth cd T' locs' h0 c _ ls st' s1 v s' L hx hZ hown hnm hret hml hlk hs0 hdec hr X' I' hL hlen)
        · cases hr
      · obtain rfl := hn.resolve_left Bool.false_ne_true
        split at hr
        · rename_i st' s1 hg
          obtain ⟨T', locs', X', I', st⟩ := st_sta X hx hZ hna I hg (Or.inr (Or.inr ⟨rfl, rfl⟩)) hd (L := L)
          exact Don.step st (ihk p l e s₀ m args below meth cd T' locs' h0 c _ ls st' s1 v s' L hx hZ hown hnm hret hml hlk hs0 hdec hr X' I' hL hlen)
        · cases hr
      -- newarray and putfield
      · obtain rfl := hn.resolve_left Bool.false_ne_true
        split at hr
        · rename_i hg
          obtain ⟨rfl, hg⟩ := hg
          obtain ⟨T', locs', X', I', st⟩ := st_new LK hme hnm X hx hZ hown hna (hs0 rfl) I hdec hg hd (L := L)
          exact Don.step st (ihk p l e s₀ m args below meth cd T' locs' h0 (c + 1) _ ls [] s v s' L hx hZ hown hnm hret hml hlk hs0 hdec hr X' I' hL hlen)
        · cases hr
      -- constants
      · obtain rfl := hn.resolve_left Bool.false_ne_true
        split at hr
        · rename_i z hg
          exact Don.step (fun t q => X.ldcI hx hown (mv hZ (LK.2.2.2.2.2.2.1 _ _ hg)) (g := mkF m pc L (st.map (va (adr + ·)))) rfl hd q) (ihk p l e s₀ m args below meth cd T locs h0 c _ ls (.int z :: st) s v s' L hx hZ hown hnm hret hml hlk hs0 hdec hr X I hL hlen)
        · cases hr
      · obtain rfl := hn.resolve_left Bool.false_ne_true
        split at hr
        · rename_i z hg
          exact Don.step (fun t q => X.ldc2J hx hown (mv hZ (LK.2.2.2.2.2.2.1 _ _ hg)) (g := mkF m pc L (st.map (va (adr + ·)))) rfl hd q) (ihk p l e s₀ m args below meth cd T locs h0 c _ ls (.long z :: st) s v s' L hx hZ hown hnm hret hml hlk hs0 hdec hr X I hL hlen)
        · cases hr
      -- Object's constructor
      · obtain rfl := hn.resolve_left Bool.false_ne_true
        split at hr
        · rename_i r
          split at hr
          · rename_i hg
            obtain ⟨rfl, hg1, hg2⟩ := hg
            obtain ⟨w1, w2, w3⟩ := LK.2.2.2.2.2.2.2.1
            obtain ⟨T', X', q1, st⟩ := initO X hx hZ hown w1 w2 w3 rfl (g := mkF m pc L (.ref adr :: r.map (va (adr + ·)))) rfl hsize rfl hd hg1 (W := cats r) (by show 2 * 0 + _ ≤ _; rw [cats_va]; omega) hg2
            exact Don.step st (ihk p l e s₀ m args below meth cd T' locs h0 c _ ls r s v s' L hx hZ hown hnm hret hml hlk hs0 hdec hr X' (by rw [q1]; exact I) hL hlen)
          · cases hr
        · cases hr
      -- a call
      · obtain rfl := hn.resolve_left Bool.false_ne_true
        split at hr
        · cases hr
        · rename_i m' hm'
          split at hr
          · cases hr
          · rename_i me' hme'
            split at hr
            · rename_i r hst
              split at hr
              · rename_i hg
                obtain ⟨hg0, hg1, hg2, hg3⟩ := hg
                dsimp only at hr
                rw [hme'] at hr
                dsimp only at hr
                obtain ⟨bytes, ps, hcode, hdec', hpar, hpl⟩ := LK.2.2.2.2.2.2.2.2.1 m' me' hme'
                obtain ⟨w1, w2, w3⟩ := LK.2.2.2.2.2.2.2.2.2.1 _ _ hm' _ hme'
                by_cases hla : (layA (Value.ref 0 :: (st.take me'.na).reverse)).length ≤ me'.ml
                · rw [if_pos hla] at hr
                  cases hcl : cexec P f m' me' c 0 (lay (.ref 0 :: (st.take me'.na).reverse) me'.ml) [] s with
                  | none => rw [hcl] at hr; cases hr
                  | some vs =>
                    obtain ⟨w, s1⟩ := vs
                    rw [hcl] at hr
                    have hr' : cexec P f mi me c (pc + 3) ls (w.toList ++ r) s1 = some (v, s') := by cases w <;> exact hr
                    have hM := met_of_CW LK hme' (ih m' me' hme') l hdec' (as := .ref 0 :: (st.take me'.na).reverse) (nd_rev (ρ := id) hg3) hla hcl (fun q => absurd q hg0) I.1 (fun q => absurd q hg0)
                    have hB := backOf (R := cRoom P mi me) (p := p) (e := e) (below := below) (s := s₀) (args := args) (len := 3) (W := cats r) hM hZ hcode LK.1.2 hg1 hg2
                    have hdl : me'.na < st.length := by
                      have := congrArg List.length hst
                      simp at this; omega
                    have hsp : st = st.take me'.na ++ .ref 0 :: r := by rw [← hst, List.take_append_drop]
                    have hcell := I.1.1.cell
                    obtain ⟨cel, hc1, hc2⟩ := hcell
                    have key : ∃ (v' : Option Value) (U : State) (Lc : List Loc), Stand p l e (cRoom P mi me) s₀ m args below meth cd U (locs ++ Lc) (co mi c) (zo P mi c) ∧ QC P Z n0 adr m' c w s1 T.heap v' U.heap Lc ∧
                        Steps p.tables e below (T.setTop (mkF m pc L (st.map (va (adr + ·))))) (U.setTop (mkF m (pc + 3) L (v'.toList ++ r.map (va (adr + ·))))) := by
                      have hsm : st.map (va (adr + ·)) = ((st.take me'.na).reverse.map (va (adr + ·))).reverse ++ .ref adr :: r.map (va (adr + ·)) := by
                        conv => lhs; rw [hsp]
                        simp [va]
                      have hll : ∀ sig, parseMethodDescriptor (yOf P me').desc = some sig → ((st.take me'.na).reverse.map (va (adr + ·))).length = sig.parameters.length := lenOf hpar (by simp [hpl]; omega)
                      have hpre : ∀ vm₁, s₀.WarmedH vm₁ → ((Value.ref adr :: (st.take me'.na).reverse.map (va (adr + ·))).toArray = ((Value.ref 0 :: (st.take me'.na).reverse).map (va (adr + ·))).toArray ∧ (T.setVm vm₁).heap = T.heap ∧ co mi c + (cRoom P m' me').cells ≤ (cRoom P mi me).cells ∧ zo P mi c + (cRoom P m' me').slots ≤ (cRoom P mi me).slots) := fun vm₁ _ => by
                        refine ⟨by simp [va], rfl, ?_, ?_⟩
                        · simp only [co, cRoom, if_neg hg0]
                          have := I.1.2.2.2.2
                          split <;> omega
                        · simp only [zo, cRoom, if_neg hg0]
                          have := zs_le P.al c
                          split <;> omega
                      have hz1 : (cRoom P m' me').cells = 0 := by simp [cRoom, hg0]
                      have hz2 : (cRoom P m' me').slots = 0 := by simp [cRoom, hg0]
                      rcases w3 with w3 | ⟨w3, w4⟩
                      · obtain ⟨v', vm₁, ⟨U, lo, ce, sl⟩, -, X', ⟨Lc, hQ, l1, l2, l3⟩, stp⟩ := privCall X hx (y := yOf P me') hown (mv hZ w1) (mv hZ w2) (nF := nF) (mv hZ hnF) (Cond.privateMethod_at (mvP hZ w3 (args := args))) (mv hZ hcode) LK.2.2.2.2.2.2.2.2.2.2.2.1 hB (g := mkF m pc L (st.map (va (adr + ·)))) rfl hsize hc1 hc2 hll hsm (by show 2 * 0 + _ ≤ _; rw [cats_va]; omega) hd hpre
                        dsimp only [Pt.U, Pt.locs, Pt.cells, Pt.slots] at X' hQ l1 l2 l3 stp
                        subst l1 l2 l3
                        rw [hz1, hz2] at X'
                        exact ⟨v', U, Lc, X', hQ, stp⟩
                      · obtain ⟨cq, kq, qa, qb, qc⟩ := isOf hZ rfl I.1.1
                        obtain ⟨v', vm₁, ⟨U, lo, ce, sl⟩, -, X', ⟨Lc, hQ, l1, l2, l3⟩, stp⟩ := X.virtualBack hx (y := yOf P me') (z := yOf P me') hown (mv hZ w1) (mv hZ w3) (notFace_of_selects (args := #[]) (mv hZ w4)) (mv hZ w4) (mv hZ w2) LK.2.2.2.2.2.2.2.2.2.2.2.1 hB qa qc (g := mkF m pc L (st.map (va (adr + ·)))) rfl hsize (Steps.refl _) hll hsm (by show 2 * 0 + _ ≤ _; rw [cats_va]; omega) hd hpre
                        dsimp only [Pt.U, Pt.locs, Pt.cells, Pt.slots] at X' hQ l1 l2 l3 stp
                        subst l1 l2 l3
                        rw [hz1, hz2] at X'
                        exact ⟨v', U, Lc, X', hQ, stp⟩
                    obtain ⟨v', U, Lc, X', ⟨⟨rfl, hva⟩, hF', hH', hK', hS'⟩, stp⟩ := key
                    rw [if_neg hg0] at hH' hS'
                    refine Don.step (fun t q => stp.trans ?_) (ihk p l e s₀ m args below meth cd U (locs ++ Lc) h0 c _ ls (v'.toList ++ r) s1 v s' L hx hZ hown hnm hret hml hlk hs0 hdec hr' X' ⟨hH', I.2.1.app hF', I.2.2.1.trans hK', by rw [hS']; exact I.2.2.2⟩ hL hlen)
                    rw [List.map_append, hva] at q; exact q
                · rw [if_neg hla] at hr; cases hr
              · cases hr
            · cases hr
      -- the rest
      · split at hr
        · split at hr
          · cases hr
          · rename_i h1 hcf
            split at hr
            · rename_i w hw
              cases hr
              have hcf' : mi = 0 → c = P.al.length := fun q => Classical.byContradiction fun z => hcf ⟨q, z⟩
              have hA : HRep P Z T.heap adr (if mi = 0 then P.al.length else c) s := by
                by_cases q : mi = 0
                · rw [if_pos q, ← hcf' q]; exact I.1
                · rw [if_neg q]; exact I.1
              have hB : Array.size T.heap = if mi = 0 then adr + 1 + P.al.length else Array.size h0 := by
                rw [I.2.2.2]
                by_cases q : mi = 0
                · rw [if_pos q, if_pos q, ← hcf' q]
                · rw [if_neg q, if_neg q]
              have hC : co mi c ≤ (cRoom P mi me).cells := by
                simp only [co, cRoom]
                by_cases q : mi = 0
                · rw [if_pos q, if_pos q, ← hcf' q]; exact Nat.le_refl _
                · rw [if_neg q, if_neg q]; exact Nat.le_refl _
              have hD : zo P mi c ≤ (cRoom P mi me).slots := by
                simp only [zo, cRoom]
                by_cases q : mi = 0
                · rw [if_pos q, if_pos q]; exact zs_le _ _
                · rw [if_neg q, if_neg q]; exact Nat.le_refl _
              exact st_ret X hx hret hlk hw hd hn ⟨⟨rfl, cret_va hw⟩, I.2.1, hA, I.2.2.1, hB⟩ hC hD
            · cases hr
        · split at hr
          · rename_i pc' ls' st' hp
            obtain ⟨L', hL', hLs, st⟩ := pstep_sound X hx hp hd hn hL
            have hlen' : ls'.length = me.ml := by rw [← hL'.1, hLs, hL.1]; exact hlen
            exact Don.step st (ihk p l e s₀ m args below meth cd T locs h0 c _ ls' st' s v s' L' hx hZ hown hnm hret hml hlk hs0 hdec hr X I hL' hlen')
          · cases hr
end Jvm.LM

namespace Jvm.LM
open Sem ClassFile Op Lib Jvm.Stand Jvm.Free Jvm.LawKit Jvm.RoadKit
/-! the law's machine: several objects of the class, and one array of ints that it only reads -/
/-- class name, pool to own static method, pool to the class's method, pool index of the constructor, of the class, number of its fields, constants, methods, room: cells, slots -/
abbrev Lw := String × List (Nat × Nat) × List (Nat × Nat) × Nat × Nat × Nat × List (Nat × Value) × List (Nat × Me) × Nat × Nat
def Lw.nm (Q : Lw) : String := Q.1
def Lw.sx (Q : Lw) : List (Nat × Nat) := Q.2.1
def Lw.vx (Q : Lw) : List (Nat × Nat) := Q.2.2.1
def Lw.ci (Q : Lw) : Nat := Q.2.2.2.1
def Lw.cx (Q : Lw) : Nat := Q.2.2.2.2.1
def Lw.nf (Q : Lw) : Nat := Q.2.2.2.2.2.1
def Lw.kx (Q : Lw) : List (Nat × Value) := Q.2.2.2.2.2.2.1
def Lw.ms (Q : Lw) : List (Nat × Me) := Q.2.2.2.2.2.2.2.1
def Lw.rc (Q : Lw) : Nat := Q.2.2.2.2.2.2.2.2.1
def Lw.rs (Q : Lw) : Nat := Q.2.2.2.2.2.2.2.2.2
/-- the objects, how many are made, whether one more is being made -/
abbrev Wd := (Nat → St) × Nat × Bool
abbrev Sc := Option (Nat × (Nat → Int32))
abbrev Rw := Option (Option Value × Wd)
def nr : List Value → Bool
  | [] => true
  | .int _ :: r => nr r
  | .long _ :: r => nr r
  | _ => false
theorem nr_map {l : List Value} (h : nr l = true) (ρ : Nat → Nat) : l.map (va ρ) = l := by
  induction l with
  | nil => rfl
  | cons v r ih => cases v <;> first | (simp only [nr] at h; simp [va, ih h]; done) | (simp [nr] at h)
theorem nr_nd {l : List Value} (h : nr l = true) : nd l = true := by
  induction l with
  | nil => rfl
  | cons v r ih => cases v <;> first | (simp only [nr] at h; simp [nd, ih h]; done) | (simp [nr] at h)
def uo (w : Nat → St) (o : Nat) (s : St) : Nat → St := fun i => if i = o then s else w i
def lstep {α : Type} (P : Cl) (Q : Lw) (sc : Sc) (mi : Nat) (me : Me) (rt : Option Value → Wd → Option α) (cc : Nat → Nat → List Value → St → Rs) (cl : Nat → List Value → Wd → Rw) (k : Nat → Lv → List Value → Wd → Option α) (i : Instr) (pc : Nat) (ls : Lv) (st : List Value) (w : Wd) : Option α :=
  match i with
  | .iaload => match sc, st with
    | some (n, g), .int j :: .ref 0 :: r => if inb n j then k (pc + 1) ls (.int (g (ix j)) :: r) w else none
    | _, _ => none
  | .arraylength => match sc, st with
    | some (n, _), .ref 0 :: r => k (pc + 1) ls (.int (Int32.ofNat n) :: r) w
    | _, _ => none
  | .ldc x => match asc Q.kx x with | some (.int z) => k (pc + 2) ls (.int z :: st) w | _ => none
  | .ldc2_w x => match asc Q.kx x with | some (.long z) => k (pc + 3) ls (.long z :: st) w | _ => none
  | .new x => if mi = 0 ∧ x = Q.cx ∧ w.2.2 = false ∧ (w.2.1 + 1) * (P.al.length + 1) ≤ Q.rc ∧ (w.2.1 + 1) * (Q.nf + zs P.al P.al.length) ≤ Q.rs then
      k (pc + 3) ls (.ref (w.2.1 + 1) :: st) (uo w.1 w.2.1 s0, w.2.1, true) else none
  | .invokespecial x => match asc P.ms 0 with
    | none => none
    | some me' => match st.drop me'.na with
      | .ref (o + 1) :: r => if x = Q.ci ∧ mi = 0 ∧ o = w.2.1 ∧ w.2.2 = true ∧ me'.rf + 1 ≤ me.rf ∧ cats r + (me'.ml + 11) + me'.rl ≤ me.rl ∧ nr (st.take me'.na) = true ∧ (w.2.1 + 1) * (P.al.length + 1) ≤ Q.rc ∧ (w.2.1 + 1) * (Q.nf + zs P.al P.al.length) ≤ Q.rs then
          (match cc 0 0 (.ref 0 :: (st.take me'.na).reverse) (w.1 o) with
           | some (none, s') => k (pc + 3) ls r (uo w.1 o s', w.2.1 + 1, false)
           | _ => none) else none
      | _ => none
  | .invokevirtual x => match asc Q.vx x with
    | none => none
    | some m' => match asc P.ms m' with
      | none => none
      | some me' => match st.drop me'.na with
        | .ref (o + 1) :: r => if m' ≠ 0 ∧ o < w.2.1 ∧ me'.rf + 1 ≤ me.rf ∧ cats r + (me'.ml + 11) + me'.rl ≤ me.rl ∧ nr (st.take me'.na) = true then
            (match cc m' P.al.length (.ref 0 :: (st.take me'.na).reverse) (w.1 o) with
             | some (none, s') => k (pc + 3) ls r (uo w.1 o s', w.2.1, w.2.2)
             | some (some v, s') => k (pc + 3) ls (v :: r) (uo w.1 o s', w.2.1, w.2.2)
             | none => none) else none
        | _ => none
  | .invokestatic x => match asc Q.sx x with
    | none => none
    | some m' => match asc Q.ms m' with
      | none => none
      | some me' => if m' ≠ 0 ∧ me'.na ≤ st.length ∧ me'.rf + 1 ≤ me.rf ∧ cats (st.drop me'.na) + (me'.ml + 11) + me'.rl ≤ me.rl ∧ nd (st.take me'.na) = true then
          (match cl m' (st.take me'.na).reverse w with
           | some (none, w') => k (pc + 3) ls (st.drop me'.na) w'
           | some (some v, w') => k (pc + 3) ls (v :: st.drop me'.na) w'
           | none => none) else none
  | i => if isRet i = true then (match cret me st i with | some v => rt v w | none => none)
    else match pstep i pc ls st with | some (pc', ls', st') => k pc' ls' st' w | none => none
def lexec (P : Cl) (Q : Lw) (sc : Sc) : Nat → Nat → Me → Nat → Lv → List Value → Wd → Rw
  | 0, _, _, _, _, _, _ => none
  | f + 1, mi, me, pc, ls, st, w => match fetch me.cd pc with
    | none => none
    | some (i, _) => lstep P Q sc mi me (fun v w => some (v, w)) (ccall P f) (fun m' as w => match asc Q.ms m' with | some me' => (if (layA as).length ≤ me'.ml then lexec P Q sc f m' me' 0 (lay as me'.ml) [] w else none) | none => none) (lexec P Q sc f mi me) i pc ls st w
theorem lexec_cnt {P : Cl} {Q : Lw} {sc : Sc} : ∀ f mi me pc ls st w v w', mi ≠ 0 → lexec P Q sc f mi me pc ls st w = some (v, w') → w'.2 = w.2 := by
  intro f
  induction f with
  | zero => intro mi me pc ls st w v w' _ h; cases h
  | succ f ih =>
    intro mi me pc ls st w v w' h0 h
    simp only [lexec] at h
    split at h
    · cases h
    · unfold lstep at h
      split at h
      · split at h
        · split at h
          · exact ih _ _ _ _ _ _ _ _ h0 h
          · cases h
        · cases h
      · split at h
        · exact ih _ _ _ _ _ _ _ _ h0 h
        · cases h
      · split at h
        · exact ih _ _ _ _ _ _ _ _ h0 h
        · cases h
      · split at h
        · exact ih _ _ _ _ _ _ _ _ h0 h
        · cases h
      · split at h
        · rename_i q; exact absurd q.1 h0
        · cases h
      · split at h
        · cases h
        · split at h
          · split at h
            · rename_i q; exact absurd q.2.1 h0
            · cases h
          · cases h
      · split at h
        · cases h
        · split at h
          · cases h
          · split at h
            · split at h
              · split at h
                · exact (ih _ _ _ _ _ _ _ _ h0 h).trans rfl
                · exact (ih _ _ _ _ _ _ _ _ h0 h).trans rfl
                · cases h
              · cases h
            · cases h
      · split at h
        · cases h
        · split at h
          · cases h
          · rename_i me' hme'
            split at h
            · rename_i hg
              dsimp only at h
              rw [hme'] at h
              dsimp only at h
              split at h
              · rename_i w2 hc
                split at hc
                · exact (ih _ _ _ _ _ _ _ _ h0 h).trans (ih _ _ _ _ _ _ _ _ hg.1 hc)
                · cases hc
              · rename_i u w2 hc
                split at hc
                · exact (ih _ _ _ _ _ _ _ _ h0 h).trans (ih _ _ _ _ _ _ _ _ hg.1 hc)
                · cases hc
              · cases h
            · cases h
      · split at h
        · split at h
          · cases h; rfl
          · cases h
        · split at h
          · exact ih _ _ _ _ _ _ _ _ h0 h
          · cases h
def lcall (P : Cl) (Q : Lw) (sc : Sc) (f m' : Nat) (as : List Value) (w : Wd) : Rw := match asc Q.ms m' with | some me' => (if (layA as).length ≤ me'.ml then lexec P Q sc f m' me' 0 (lay as me'.ml) [] w else none) | none => none
def zOf (Q : Lw) (me : Me) : MethodName := ⟨Q.nm, me.nm, me.ds⟩
def LinkL (P : Cl) (Q : Lw) (Z : State) (a0 : Array Value) : Prop :=
  ((Cond.classLink Q.nm Q.cx P.nm).before a0 Z = true ∧ (Cond.instantiable P.nm Q.nf).before a0 Z = true) ∧
  (∀ me, asc P.ms 0 = some me → (Cond.methodLink Q.nm Q.ci (yOf P me)).before a0 Z = true ∧ (Cond.instanceMethod (yOf P me)).before a0 Z = true ∧ me.rt = 0) ∧
  (∀ x m', asc Q.vx x = some m' → ∀ me, asc P.ms m' = some me → (Cond.methodLink Q.nm x (yOf P me)).before a0 Z = true ∧ (Cond.declares (yOf P me)).before a0 Z = true ∧ (Cond.instanceMethod (yOf P me)).before a0 Z = true ∧ (Cond.selects P.nm (yOf P me) (yOf P me)).before a0 Z = true) ∧
  (∀ x m', asc Q.sx x = some m' → ∀ me, asc Q.ms m' = some me → (Cond.methodLink Q.nm x (zOf Q me)).before a0 Z = true ∧ (Cond.static (zOf Q me)).before a0 Z = true ∧ (Cond.initialized Q.nm).before a0 Z = true) ∧
  (∀ x v, asc Q.kx x = some v → match v with
    | .int z => (Cond.constant Q.nm x z).before a0 Z = true
    | .long z => (Cond.constantLong Q.nm x z).before a0 Z = true
    | _ => True) ∧
  (∀ mi me, asc Q.ms mi = some me → mi ≠ 0 → ∃ (bytes : ByteArray) (ps : List FieldType), (Cond.code (zOf Q me) bytes me.ml (retOf me.rt)).before a0 Z = true ∧
    (∀ pc i n, fetch me.cd pc = some (i, n) → decode bytes pc = .ok (i, n) ∧ (isSw i = true ∨ n = ilen i)) ∧ parseMethodDescriptor me.ds = some ⟨ps, retOf me.rt⟩ ∧ ps.length = me.na) ∧
  plainName Q.nm = true ∧ (Q.nm ≠ "java/lang/invoke/MethodHandle" ∧ Q.nm ≠ "java/lang/invoke/VarHandle")
def rho (a n0 K : Nat) : Nat → Nat
  | 0 => a
  | o + 1 => n0 + o * K
def SRep (Z : State) (h : Heap) (a n0 : Nat) (sc : Sc) : Prop :=
  match sc with
  | none => True
  | some (n, g) => a < n0 ∧ ∃ cl : Cell, Arr Z h a cl .int ∧ cl.slots.size = n ∧ ∀ i, i < n → cl.slots[i]? = some (.int (g i))
def LRep (P : Cl) (Z : State) (h : Heap) (a n0 : Nat) (sc : Sc) (w : Wd) : Prop :=
  SRep Z h a n0 sc ∧ (∀ o, o < w.2.1 → HRep P Z h (n0 + o * (P.al.length + 1)) P.al.length (w.1 o)) ∧
  (w.2.2 = true → HRep P Z h (n0 + w.2.1 * (P.al.length + 1)) 0 (w.1 w.2.1)) ∧ h.size = n0 + w.2.1 * (P.al.length + 1) + (if w.2.2 = true then 1 else 0)
def lRoom (Q : Lw) (mi : Nat) (me : Me) : Room := { frames := me.rf, cells := if mi = 0 then Q.rc else 0, slots := if mi = 0 then Q.rs else 0, locals := me.rl }
def QL (P : Cl) (Z : State) (a n0 : Nat) (sc : Sc) (v : Option Value) (w' : Wd) (u : Option Value) (h : Heap) (L : List Loc) : Prop :=
  (u = v ∧ ∀ ρ, u.toList.map (va ρ) = u.toList) ∧ Fr n0 L ∧ LRep P Z h a n0 sc w'
def lco (P : Cl) (mi : Nat) (w : Wd) : Nat := if mi = 0 then w.2.1 * (P.al.length + 1) + (if w.2.2 = true then 1 else 0) else 0
def lzo (P : Cl) (Q : Lw) (mi : Nat) (w : Wd) : Nat := if mi = 0 then w.2.1 * (Q.nf + zs P.al P.al.length) + (if w.2.2 = true then Q.nf else 0) else 0
def LW (P : Cl) (Q : Lw) (sc : Sc) (Z : State) (a n0 f mi : Nat) (me : Me) : Prop :=
  ∀ (p : Program) (l : Launch) (e : Env) (s₀ : State) (m : MethodId) (args : Array Value) (below : List Frame) (meth : Method) (cd : Code) (T : State) (locs : List Loc) (pc : Nat) (ls : Lv) (st : List Value) (w : Wd) (v : Option Value) (w' : Wd) (L : Array Slot),
    p.tables.exec = Jvm.exec → Z.Warmed39 s₀.vm → s₀.vm.findClass Q.nm = some m.cls → meth.sig.returnType = retOf me.rt → cd.maxLocals = me.ml → meth.locks = false → (mi = 0 → s₀.heap.size = n0) →
    (∀ pc i n, fetch me.cd pc = some (i, n) → decode cd.code pc = .ok (i, n) ∧ (isSw i = true ∨ n = ilen i)) →
    lexec P Q sc f mi me pc ls st w = some (v, w') →
    Stand p l e (lRoom Q mi me) s₀ m args below meth cd T locs (lco P mi w) (lzo P Q mi w) → w.2.1 * (P.al.length + 1) + (if w.2.2 = true then 1 else 0) ≤ (lRoom Q 0 me).cells → w.2.1 * (Q.nf + zs P.al P.al.length) + (if w.2.2 = true then Q.nf else 0) ≤ (lRoom Q 0 me).slots →
    LRep P Z T.heap a n0 sc w → Fr n0 locs → LR (rho a n0 (P.al.length + 1)) ls L → ls.length = me.ml →
    Don p e below s₀ (lRoom Q mi me) (QL P Z a n0 sc v w') (T.setTop (mkF m pc L (st.map (va (rho a n0 (P.al.length + 1))))))
theorem met_of_LW {P : Cl} {Q : Lw} {sc : Sc} {Z : State} {a0 : Array Value} (LL : LinkL P Q Z a0) {a n0 f mi : Nat} {me : Me} (hW : LW P Q sc Z a n0 f mi me) (hmi : mi ≠ 0) (l : Launch) {bytes : ByteArray}
    (hdec : ∀ pc i n, fetch me.cd pc = some (i, n) → decode bytes pc = .ok (i, n) ∧ (isSw i = true ∨ n = ilen i))
    {as : List Value} (hd : ∀ v ∈ as, ∀ x, v ≠ .double x) (hlen : (layA as).length ≤ me.ml) {w w' : Wd} {v : Option Value} {h : Heap} (hr : lexec P Q sc f mi me 0 (lay as me.ml) [] w = some (v, w'))
    (hc1 : w.2.1 * (P.al.length + 1) + (if w.2.2 = true then 1 else 0) ≤ Q.rc) (hc2 : w.2.1 * (Q.nf + zs P.al P.al.length) + (if w.2.2 = true then Q.nf else 0) ≤ Q.rs)
    (H : LRep P Z h a n0 sc w) :
    MetFree l (zOf Q me) (head1 [Cond.code (zOf Q me) bytes me.ml (retOf me.rt)] (lRoom Q mi me)) (fun b U => b = (as.map (va (rho a n0 (P.al.length + 1)))).toArray ∧ Z.Warmed39 U.vm ∧ U.heap = h) (fun _ _ _ _ _ => True)
      (fun _ U o U' => ∃ u L, o = .returned u ∧ QL P Z a n0 sc v w' u U'.heap L ∧ FrameEnd U o U' L (lRoom Q mi me).cells (lRoom Q mi me).slots) := by
  refine MetFree.of_bodySF (plainFor_of_name LL.2.2.2.2.2.2.1) hisR ?_
  intro p e s₀ m args below meth cd s₁ Bd hml hP hK
  obtain ⟨rfl, hZ, hh⟩ := hP
  have e0 : s₁.heap = h := by rw [← hh, Bd.state]; rfl
  have X0 : Stand p l e (lRoom Q mi me) s₀ m _ below meth cd s₁ [] 0 0 := Stand.of_body Bd
  have hown : s₀.vm.findClass Q.nm = some m.cls := findClass_of_methodNamed Bd.named
  have hk0 : lco P mi w = 0 := by simp [lco, hmi]
  have hz0 : lzo P Q mi w = 0 := by simp [lzo, hmi]
  have D := hW p l e s₀ m _ below meth cd s₁ [] 0 (lay as me.ml) [] w v w' _ Bd.exec hZ hown Bd.returns hml Bd.notSynchronized (fun q => absurd q hmi)
    (fun pc i n q => by rw [Bd.bytes]; exact hdec pc i n q) hr (by rw [hk0, hz0]; exact X0) (by simpa [lRoom] using hc1) (by simpa [lRoom] using hc2) (by rw [e0]; exact H) (Fr.nil n0) (lay_LR hd hlen) (lay_len hlen)
  obtain ⟨s₂, o, a1, a2, a3, u, L, a4, a5, a6⟩ := D
  exact ⟨s₂, o, a1, a2, a3, u, L, a4, a5, a6⟩
end Jvm.LM

namespace Jvm.LM
open Sem ClassFile Op Lib Jvm.Stand Jvm.Free Jvm.LawKit Jvm.RoadKit
theorem rng {a b K : Nat} (h : a < b) : a * K + K ≤ b * K := by
  have := Nat.mul_le_mul_right K (show a + 1 ≤ b from h)
  rw [Nat.succ_mul] at this; exact this
theorem SRep.congr {Z : State} {h h' : Heap} {a n0 : Nat} {sc : Sc} (H : SRep Z h a n0 sc) (e : ∀ x, x < n0 → h'[x]? = h[x]?) : SRep Z h' a n0 sc := by
  unfold SRep at H ⊢
  split
  · trivial
  · obtain ⟨h1, cl, ⟨q1, q2⟩, q3⟩ := H
    exact ⟨h1, cl, ⟨by rw [e a h1]; exact q1, q2⟩, q3⟩
/-- one object has moved, the others stand -/
theorem LRep.call {P : Cl} {Z : State} {h h' : Heap} {a n0 o : Nat} {sc : Sc} {w : Wd} {s' : St} (H : LRep P Z h a n0 sc w) (ho : o < w.2.1) (K : Kp h h' (n0 + o * (P.al.length + 1)) P.al.length) (hs : h'.size = h.size) (H' : HRep P Z h' (n0 + o * (P.al.length + 1)) P.al.length s') :
    LRep P Z h' a n0 sc (uo w.1 o s', w.2.1, w.2.2) := by
  obtain ⟨h1, h2, h3, h4⟩ := H
  refine ⟨h1.congr fun x hx => K x (Or.inl (by omega)), fun o' ho' => ?_, fun q => ?_, by rw [hs]; exact h4⟩
  · by_cases e : o' = o
    · subst e; simpa [uo] using H'
    · have := (h2 o' ho').congr (h' := h') fun x hx1 hx2 => K x (by
        rcases Nat.lt_or_gt_of_ne e with q | q
        · have := rng (K := P.al.length + 1) q; omega
        · have := rng (K := P.al.length + 1) q; omega)
      simpa [uo, e] using this
  · have e : w.2.1 ≠ o := by omega
    have := (h3 q).congr (h' := h') fun x hx1 hx2 => K x (by have := rng (K := P.al.length + 1) ho; omega)
    simpa [uo, e] using this
theorem ar1 {x k r y : Nat} (e : y = x + (k + 1)) (h : y ≤ r) : x + 1 + k ≤ r := by omega
theorem ar3 {x k y : Nat} (h : y = x + (k + 1)) : y + 0 = x + 1 + k := by omega
theorem ar4 {x f z y : Nat} (h : y = x + (f + z)) : y + 0 = x + f + z := by omega
theorem ar5 {x f z r y : Nat} (e : y = x + (f + z)) (h : y ≤ r) : x + f + z ≤ r := by omega
theorem ar6 {n x k y : Nat} (h : y = x + (k + 1)) : n + x + 1 + k = n + y + 0 := by omega
theorem lwalk {P : Cl} {Q : Lw} {sc : Sc} {Z : State} {a0 : Array Value} (LK : LinkC P Z a0) (LL : LinkL P Q Z a0) {a n0 : Nat} : ∀ f mi me, asc Q.ms mi = some me → LW P Q sc Z a n0 f mi me := by
  intro f
  induction f with
  | zero =>
    intro mi me hme p l e s₀ m args below meth cd T locs pc ls st w v w' L hx hZ hown hret hml hlk hs0 hdec hr
    cases hr
  | succ f ih =>
    intro mi me hme p l e s₀ m args below meth cd T locs pc ls st w v w' L hx hZ hown hret hml hlk hs0 hdec hr X hc1 hc2 I hFr hL hlen
    simp only [lexec] at hr
    split at hr
    · cases hr
    · rename_i i n hf
      obtain ⟨hd, hn⟩ := hdec pc i n hf
      have ihk := ih mi me hme
      have hsize : L.size = cd.maxLocals := by rw [hL.1, hlen, hml]
      unfold lstep at hr
      split at hr
      -- iaload
      · obtain rfl := hn.resolve_left Bool.false_ne_true
        split at hr
        · rename_i N g j r
          split at hr
          · rename_i hin
            obtain ⟨ha, cl, A, hN, hv⟩ : SRep Z T.heap a n0 (some (N, g)) := I.1
            refine Don.step (fun t q => ?_) (ihk p l e s₀ m args below meth cd T locs _ ls (.int (g (ix j)) :: r) w v w' L hx hZ hown hret hml hlk hs0 hdec hr X hc1 hc2 I hFr hL hlen)
            exact X.iaload hx A.1 (State.isArrayOf_alike hZ.alike A.2.1) A.2.2 (by rw [hN]; exact inb_not hin) (hv (ix j) (inb_ix hin)) (g := mkF m pc L (.int j :: .ref a :: r.map (va (rho a n0 (P.al.length + 1))))) rfl rfl hd t q
          · cases hr
        · cases hr
      -- arraylength
      · obtain rfl := hn.resolve_left Bool.false_ne_true
        split at hr
        · rename_i N g r
          obtain ⟨ha, cl, A, hN, hv⟩ : SRep Z T.heap a n0 (some (N, g)) := I.1
          refine Don.step (fun t q => ?_) (ihk p l e s₀ m args below meth cd T locs _ ls (.int (Int32.ofNat N) :: r) w v w' L hx hZ hown hret hml hlk hs0 hdec hr X hc1 hc2 I hFr hL hlen)
          exact X.arraylength hx A.1 (State.isArrayOf_alike hZ.alike A.2.1) (g := mkF m pc L (.ref a :: r.map (va (rho a n0 (P.al.length + 1))))) rfl rfl hd t (by rw [hN]; exact q)
        · cases hr
      -- constants
      · obtain rfl := hn.resolve_left Bool.false_ne_true
        split at hr
        · rename_i z hg
          exact Don.step (fun t q => X.ldcI hx hown (mv hZ (LL.2.2.2.2.1 _ _ hg)) (g := mkF m pc L (st.map (va (rho a n0 (P.al.length + 1))))) rfl hd q) (ihk p l e s₀ m args below meth cd T locs _ ls (.int z :: st) w v w' L hx hZ hown hret hml hlk hs0 hdec hr X hc1 hc2 I hFr hL hlen)
        · cases hr
      · obtain rfl := hn.resolve_left Bool.false_ne_true
        split at hr
        · rename_i z hg
          exact Don.step (fun t q => X.ldc2J hx hown (mv hZ (LL.2.2.2.2.1 _ _ hg)) (g := mkF m pc L (st.map (va (rho a n0 (P.al.length + 1))))) rfl hd q) (ihk p l e s₀ m args below meth cd T locs _ ls (.long z :: st) w v w' L hx hZ hown hret hml hlk hs0 hdec hr X hc1 hc2 I hFr hL hlen)
        · cases hr
      -- new
      · obtain rfl := hn.resolve_left Bool.false_ne_true
        split at hr
        · rename_i hg
          obtain ⟨rfl, rfl, hp, hg1, hg2⟩ := hg
          obtain ⟨os, cnt, pend⟩ := w
          dsimp only at hp hg1 hg2 hr
          subst hp
          have hk : lco P 0 (os, cnt, false) = cnt * (P.al.length + 1) := by simp [lco]
          have hz : lzo P Q 0 (os, cnt, false) = cnt * (Q.nf + zs P.al P.al.length) := by simp [lzo]
          have m1 : (cnt + 1) * (P.al.length + 1) = cnt * (P.al.length + 1) + (P.al.length + 1) := Nat.succ_mul ..
          have m2 : (cnt + 1) * (Q.nf + zs P.al P.al.length) = cnt * (Q.nf + zs P.al P.al.length) + (Q.nf + zs P.al P.al.length) := Nat.succ_mul ..
          rw [hk, hz] at X
          obtain ⟨T', h', X', q1, E, A, D, -, st1⟩ := newO X hx hZ hown LL.1.1 LL.1.2 LK.1.2 rfl (g := mkF m pc L (st.map (va (rho a n0 (P.al.length + 1))))) rfl hd (by simp only [lRoom, if_true]; omega) (by simp only [lRoom, if_true]; omega)
          obtain ⟨i1, i2, i3, i4⟩ := I
          have hsz : T.heap.size = n0 + cnt * (P.al.length + 1) := by simpa using i4
          have hsz' : h'.size = n0 + cnt * (P.al.length + 1) + 1 := by
            have g1 : T'.heap.size ≤ s₀.heap.size + (cnt * (P.al.length + 1) + 1) := X'.heapSize
            have g2 : T.heap.size < Array.size h' := A.lt
            rw [q1, hs0 rfl] at g1
            rw [hsz] at g2
            omega
          have same : ∀ x, x < T.heap.size → h'[x]? = T.heap[x]? := fun x hx => by
            obtain ⟨cc, hcc⟩ : ∃ cc, T.heap[x]? = some cc := ⟨T.heap[x], Array.getElem?_eq_getElem hx⟩
            rw [hcc]; exact E.2 _ _ hcc
          have I' : LRep P Z T'.heap a n0 sc (uo os cnt s0, cnt, true) := by
            rw [q1]
            refine ⟨i1.congr fun x hx => same x (by omega), fun o ho => ?_, fun _ => ?_, by simpa using hsz'⟩
            · have := (i2 o ho).congr (h' := h') fun x hx1 hx2 => same x (by have := rng (K := P.al.length + 1) (show o < cnt from ho); omega)
              simpa [uo, show o ≠ cnt from Nat.ne_of_lt ho] using this
            · simp only [uo, if_true]
              rw [hsz] at A D
              refine ⟨A, fun k fe hk => ?_, fun j tt N hj hc => absurd hc (Nat.not_lt_zero _), fun j i hj => ⟨rfl, rfl⟩, Nat.zero_le _⟩
              have q := D (laid_of LK hk) (LK.2.2.2.1 k fe hk)
              have e2 : Fval (n0 + cnt * (P.al.length + 1)) 0 s0 k fe = defaultValue (fkTy P fe.2.2.1) := by
                simp only [Fval]; split
                · rename_i e3; rw [e3]; rfl
                · rename_i e3; rw [e3]; rfl
                · rename_i e3; rw [e3]; rfl
                · rename_i e3; rw [e3]; rfl
              rw [e2]; exact q
          refine Don.step (fun t q => st1 t ?_) (ihk p l e s₀ m args below meth cd T' locs _ ls (.ref (cnt + 1) :: st) _ v w' L hx hZ hown hret hml hlk hs0 hdec hr (by simpa [lco, lzo] using X') (by simp only [lRoom, if_true]; omega) (by simp only [lRoom, if_true]; omega) I' hFr hL hlen)
          rw [hsz]; exact q
        · cases hr
      -- the constructor
      · obtain rfl := hn.resolve_left Bool.false_ne_true
        split at hr
        · cases hr
        · rename_i me' hme'
          split at hr
          · rename_i o r hst
            split at hr
            · rename_i hg
              obtain ⟨rfl, rfl, hgo, hp, hg1, hg2, hg3, hg4, hg5⟩ := hg
              obtain ⟨os, cnt, pend⟩ := w
              dsimp only at hgo hp hg1 hg2 hr hg4 hg5
              subst hp hgo
              obtain ⟨bytes, ps, hcode, hdec', hpar, hpl⟩ := LK.2.2.2.2.2.2.2.2.1 0 me' hme'
              obtain ⟨w1, w2, hrt⟩ := LL.2.1 me' hme'
              have hcode' := hcode
              rw [hrt] at hcode'
              have hini := LK.2.2.2.2.2.2.2.2.2.2.2.2 me' hme'
              have m1 : (o + 1) * (P.al.length + 1) = o * (P.al.length + 1) + (P.al.length + 1) := Nat.succ_mul ..
              have m2 : (o + 1) * (Q.nf + zs P.al P.al.length) = o * (Q.nf + zs P.al P.al.length) + (Q.nf + zs P.al P.al.length) := Nat.succ_mul ..
              simp only [ccall, hme'] at hr
              by_cases hla : (layA (Value.ref 0 :: (st.take me'.na).reverse)).length ≤ me'.ml
              · rw [if_pos hla] at hr
                cases hcl : cexec P f 0 me' 0 0 (lay (.ref 0 :: (st.take me'.na).reverse) me'.ml) [] (os o) with
                | none => rw [hcl] at hr; cases hr
                | some vs =>
                  obtain ⟨u, s1⟩ := vs
                  rw [hcl] at hr
                  cases u with
                  | some u => cases hr
                  | none =>
                    dsimp only at hr
                    obtain ⟨i1, i2, i3, i4⟩ := I
                    have hsz : T.heap.size = n0 + o * (P.al.length + 1) + 1 := by simpa using i4
                    have hM := met_of_CW LK hme' (cwalk LK (n0 := n0) (adr := n0 + o * (P.al.length + 1)) (Nat.le_add_right _ _) f 0 me' hme') l hdec' (as := .ref 0 :: (st.take me'.na).reverse) (nd_rev (ρ := id) (nr_nd hg3)) hla hcl (fun _ => rfl) (i3 rfl) (fun _ => hsz)
                    have hB := backOf (R := lRoom Q 0 me) (p := p) (e := e) (below := below) (s := s₀) (args := args) (len := 3) (W := cats r) hM hZ hcode LK.1.2 hg1 hg2
                    have hdl : me'.na < st.length := by
                      have := congrArg List.length hst
                      simp at this; omega
                    have hsp : st = st.take me'.na ++ .ref (o + 1) :: r := by rw [← hst, List.take_append_drop]
                    have hrv : ∀ ρ : Nat → Nat, (st.take me'.na).reverse.map (va ρ) = (st.take me'.na).reverse := fun ρ => by rw [List.map_reverse, nr_map hg3]
                    have hsm : st.map (va (rho a n0 (P.al.length + 1))) = ((st.take me'.na).reverse).reverse ++ .ref (n0 + o * (P.al.length + 1)) :: r.map (va (rho a n0 (P.al.length + 1))) := by
                      conv => lhs; rw [hsp]
                      rw [List.map_append, nr_map hg3]; simp [va, rho]
                    have hll : ∀ sig, parseMethodDescriptor (yOf P me').desc = some sig → ((st.take me'.na).reverse).length = sig.parameters.length := lenOf hpar (by simp [hpl]; omega)
                    have hk : lco P 0 (os, o, true) = o * (P.al.length + 1) + 1 := by simp [lco]
                    have hz : lzo P Q 0 (os, o, true) = o * (Q.nf + zs P.al P.al.length) + Q.nf := by simp [lzo]
                    rw [hk, hz] at X
                    have hpre : ∀ vm₁, s₀.WarmedH vm₁ → ((Value.ref (n0 + o * (P.al.length + 1)) :: (st.take me'.na).reverse).toArray = ((Value.ref 0 :: (st.take me'.na).reverse).map (va ((n0 + o * (P.al.length + 1)) + ·))).toArray ∧ (T.setVm vm₁).heap = T.heap ∧ o * (P.al.length + 1) + 1 + (cRoom P 0 me').cells ≤ (lRoom Q 0 me).cells ∧ o * (Q.nf + zs P.al P.al.length) + Q.nf + (cRoom P 0 me').slots ≤ (lRoom Q 0 me).slots) := fun vm₁ _ => by
                      refine ⟨by rw [List.map_cons, hrv]; rfl, rfl, ?_, ?_⟩
                      · show o * (P.al.length + 1) + 1 + P.al.length ≤ Q.rc
                        exact ar1 m1 hg4
                      · show o * (Q.nf + zs P.al P.al.length) + Q.nf + zs P.al P.al.length ≤ Q.rs
                        exact ar5 m2 hg5
                    obtain ⟨v', vm₁, ⟨U, lo, ce, sl⟩, -, X', ⟨Lc, hQ, l1, l2, l3⟩, stp⟩ := X.specialBack hx (y := yOf P me') hini hown (mv hZ w1) (mv hZ w2) (mv hZ hcode') LK.2.2.2.2.2.2.2.2.2.2.2.1 hB (g := mkF m pc L (st.map (va (rho a n0 (P.al.length + 1))))) rfl hsize (Steps.refl _) hll hsm (by show 2 * 0 + _ ≤ _; rw [cats_va]; omega) hd hpre
                    dsimp only [Pt.U, Pt.locs, Pt.cells, Pt.slots] at X' hQ l1 l2 l3 stp
                    subst l1 l2 l3
                    obtain ⟨⟨rfl, -⟩, hF', hH', hK', hS'⟩ := hQ
                    rw [if_pos rfl] at hH' hS'
                    have I' : LRep P Z U.heap a n0 sc (uo os o s1, o + 1, false) := by
                      refine ⟨i1.congr fun x hx => hK' x (Or.inl (by omega)), fun o' ho' => ?_, fun q => by simp at q, by rw [hS']; show n0 + o * (P.al.length + 1) + 1 + P.al.length = n0 + (o + 1) * (P.al.length + 1) + 0; exact ar6 m1⟩
                      by_cases e2 : o' = o
                      · subst e2; simpa [uo] using hH'
                      · have ho2 : o' < o := by have : o' < o + 1 := ho'; omega
                        have := (i2 o' ho2).congr (h' := U.heap) fun x hx1 hx2 => hK' x (by have := rng (K := P.al.length + 1) ho2; omega)
                        simpa [uo, e2] using this
                    refine Don.step (fun t q => stp.trans q) (ihk p l e s₀ m args below meth cd U (locs ++ Lc) _ ls r _ v w' L hx hZ hown hret hml hlk hs0 hdec hr ?_ (by show (o + 1) * (P.al.length + 1) + 0 ≤ Q.rc; omega) (by show (o + 1) * (Q.nf + zs P.al P.al.length) + 0 ≤ Q.rs; omega) I' (hFr.app hF') hL hlen)
                    have h1 : lco P 0 (uo os o s1, o + 1, false) = o * (P.al.length + 1) + 1 + (cRoom P 0 me').cells := by
                      show (o + 1) * (P.al.length + 1) + 0 = o * (P.al.length + 1) + 1 + P.al.length
                      exact ar3 m1
                    have h2 : lzo P Q 0 (uo os o s1, o + 1, false) = o * (Q.nf + zs P.al P.al.length) + Q.nf + (cRoom P 0 me').slots := by
                      show (o + 1) * (Q.nf + zs P.al P.al.length) + 0 = o * (Q.nf + zs P.al P.al.length) + Q.nf + zs P.al P.al.length
                      exact ar4 m2
                    rw [h1, h2]; exact X'
              · rw [if_neg hla] at hr; cases hr
            · cases hr
          · cases hr
      -- a method of the class
      · obtain rfl := hn.resolve_left Bool.false_ne_true
        split at hr
        · cases hr
        · rename_i m' hm'
          split at hr
          · cases hr
          · rename_i me' hme'
            split at hr
            · rename_i o r hst
              split at hr
              · rename_i hg
                obtain ⟨hg0, hgo, hg1, hg2, hg3⟩ := hg
                obtain ⟨bytes, ps, hcode, hdec', hpar, hpl⟩ := LK.2.2.2.2.2.2.2.2.1 m' me' hme'
                obtain ⟨w1, w2, w3, w4⟩ := LL.2.2.1 _ _ hm' me' hme'
                simp only [ccall, hme'] at hr
                by_cases hla : (layA (Value.ref 0 :: (st.take me'.na).reverse)).length ≤ me'.ml
                · rw [if_pos hla] at hr
                  cases hcl : cexec P f m' me' P.al.length 0 (lay (.ref 0 :: (st.take me'.na).reverse) me'.ml) [] (w.1 o) with
                  | none => rw [hcl] at hr; cases hr
                  | some vs =>
                    obtain ⟨u, s1⟩ := vs
                    rw [hcl] at hr
                    have hr' : lexec P Q sc f mi me (pc + 3) ls (u.toList ++ r) (uo w.1 o s1, w.2.1, w.2.2) = some (v, w') := by cases u <;> exact hr
                    have hM := met_of_CW LK hme' (cwalk LK (n0 := n0) (adr := n0 + o * (P.al.length + 1)) (Nat.le_add_right _ _) f m' me' hme') l hdec' (as := .ref 0 :: (st.take me'.na).reverse) (nd_rev (ρ := id) (nr_nd hg3)) hla hcl (fun q => absurd q hg0) (I.2.1 o hgo) (fun q => absurd q hg0)
                    have hB := backOf (R := lRoom Q mi me) (p := p) (e := e) (below := below) (s := s₀) (args := args) (len := 3) (W := cats r) hM hZ hcode LK.1.2 hg1 hg2
                    have hdl : me'.na < st.length := by
                      have := congrArg List.length hst
                      simp at this; omega
                    have hsp : st = st.take me'.na ++ .ref (o + 1) :: r := by rw [← hst, List.take_append_drop]
                    have hrv : ∀ ρ : Nat → Nat, (st.take me'.na).reverse.map (va ρ) = (st.take me'.na).reverse := fun ρ => by rw [List.map_reverse, nr_map hg3]
                    have hsm : st.map (va (rho a n0 (P.al.length + 1))) = ((st.take me'.na).reverse).reverse ++ .ref (n0 + o * (P.al.length + 1)) :: r.map (va (rho a n0 (P.al.length + 1))) := by
                      conv => lhs; rw [hsp]
                      rw [List.map_append, nr_map hg3]; simp [va, rho]
                    have hll : ∀ sig, parseMethodDescriptor (yOf P me').desc = some sig → ((st.take me'.na).reverse).length = sig.parameters.length := lenOf hpar (by simp [hpl]; omega)
                    have hz1 : (cRoom P m' me').cells = 0 := by simp [cRoom, hg0]
                    have hz2 : (cRoom P m' me').slots = 0 := by simp [cRoom, hg0]
                    have hpre : ∀ vm₁, s₀.WarmedH vm₁ → ((Value.ref (n0 + o * (P.al.length + 1)) :: (st.take me'.na).reverse).toArray = ((Value.ref 0 :: (st.take me'.na).reverse).map (va ((n0 + o * (P.al.length + 1)) + ·))).toArray ∧ (T.setVm vm₁).heap = T.heap ∧ lco P mi w + (cRoom P m' me').cells ≤ (lRoom Q mi me).cells ∧ lzo P Q mi w + (cRoom P m' me').slots ≤ (lRoom Q mi me).slots) := fun vm₁ _ => by
                      refine ⟨by rw [List.map_cons, hrv]; rfl, rfl, ?_, ?_⟩
                      · rw [hz1]; simp only [lco, lRoom] at *; split
                        · simpa using hc1
                        · exact Nat.le_refl _
                      · rw [hz2]; simp only [lzo, lRoom] at *; split
                        · simpa using hc2
                        · exact Nat.le_refl _
                    obtain ⟨cq, kq, qa, qb, qc⟩ := isOf hZ rfl (I.2.1 o hgo).1
                    obtain ⟨v', vm₁, ⟨U, lo, ce, sl⟩, -, X', ⟨Lc, hQ, l1, l2, l3⟩, stp⟩ := X.virtualBack hx (y := yOf P me') (z := yOf P me') hown (mv hZ w1) (mv hZ w2) (notFace_of_selects (args := #[]) (mv hZ w4)) (mv hZ w4) (mv hZ w3) LK.2.2.2.2.2.2.2.2.2.2.2.1 hB qa qc (g := mkF m pc L (st.map (va (rho a n0 (P.al.length + 1))))) rfl hsize (Steps.refl _) hll hsm (by show 2 * 0 + _ ≤ _; rw [cats_va]; omega) hd hpre
                    dsimp only [Pt.U, Pt.locs, Pt.cells, Pt.slots] at X' hQ l1 l2 l3 stp
                    subst l1 l2 l3
                    obtain ⟨⟨rfl, hva⟩, hF', hH', hK', hS'⟩ := hQ
                    rw [if_neg hg0] at hH' hS'
                    rw [hz1, hz2] at X'
                    refine Don.step (fun t q => stp.trans ?_) (ihk p l e s₀ m args below meth cd U (locs ++ Lc) _ ls (v'.toList ++ r) _ v w' L hx hZ hown hret hml hlk hs0 hdec hr' X' hc1 hc2 (I.call hgo hK' hS' hH') (hFr.app hF') hL hlen)
                    rw [List.map_append, hva] at q; exact q
                · rw [if_neg hla] at hr; cases hr
              · cases hr
            · cases hr
      -- a static method of the law
      · obtain rfl := hn.resolve_left Bool.false_ne_true
        split at hr
        · cases hr
        · rename_i m' hm'
          split at hr
          · cases hr
          · rename_i me' hme'
            split at hr
            · rename_i hg
              obtain ⟨hg0, hgn, hg1, hg2, hg3⟩ := hg
              obtain ⟨bytes, ps, hcode, hdec', hpar, hpl⟩ := LL.2.2.2.2.2.1 m' me' hme' hg0
              obtain ⟨w1, w2, w3⟩ := LL.2.2.2.1 _ _ hm' me' hme'
              dsimp only at hr
              rw [hme'] at hr
              dsimp only at hr
              by_cases hla : (layA (st.take me'.na).reverse).length ≤ me'.ml
              · rw [if_pos hla] at hr
                cases hcl : lexec P Q sc f m' me' 0 (lay (st.take me'.na).reverse me'.ml) [] w with
                | none => rw [hcl] at hr; cases hr
                | some vs =>
                  obtain ⟨u, w2'⟩ := vs
                  rw [hcl] at hr
                  have hr' : lexec P Q sc f mi me (pc + 3) ls (u.toList ++ st.drop me'.na) w2' = some (v, w') := by cases u <;> exact hr
                  have hndv : ∀ v ∈ (st.take me'.na).reverse, ∀ x, v ≠ .double x := fun v hv x e => nd_spec hg3 v (List.mem_reverse.mp hv) x e
                  have hM := met_of_LW LL (ih m' me' hme') hg0 l hdec' (as := (st.take me'.na).reverse) hndv hla hcl (by simpa [lRoom] using hc1) (by simpa [lRoom] using hc2) I
                  have hB := backOf (R := lRoom Q mi me) (p := p) (e := e) (below := below) (s := s₀) (args := args) (len := 3) (W := cats (st.drop me'.na)) hM hZ hcode w3 hg1 hg2
                  have hsm : st.map (va (rho a n0 (P.al.length + 1))) = (((st.take me'.na).reverse).map (va (rho a n0 (P.al.length + 1)))).reverse ++ (st.drop me'.na).map (va (rho a n0 (P.al.length + 1))) := by
                    conv => lhs; rw [← List.take_append_drop me'.na st]
                    simp
                  have hll : ∀ sig, parseMethodDescriptor (zOf Q me').desc = some sig → (((st.take me'.na).reverse).map (va (rho a n0 (P.al.length + 1)))).length = sig.parameters.length := lenOf hpar (by simp [hpl]; omega)
                  have hz1 : (lRoom Q m' me').cells = 0 := by simp [lRoom, hg0]
                  have hz2 : (lRoom Q m' me').slots = 0 := by simp [lRoom, hg0]
                  have hpre : ∀ vm₁, s₀.WarmedH vm₁ → ((((st.take me'.na).reverse).map (va (rho a n0 (P.al.length + 1)))).toArray = (((st.take me'.na).reverse).map (va (rho a n0 (P.al.length + 1)))).toArray ∧ (T.setVm vm₁).heap = T.heap ∧ lco P mi w + (lRoom Q m' me').cells ≤ (lRoom Q mi me).cells ∧ lzo P Q mi w + (lRoom Q m' me').slots ≤ (lRoom Q mi me).slots) := fun vm₁ _ => by
                    refine ⟨rfl, rfl, ?_, ?_⟩
                    · rw [hz1]; simp only [lco, lRoom] at *; split
                      · simpa using hc1
                      · exact Nat.le_refl _
                    · rw [hz2]; simp only [lzo, lRoom] at *; split
                      · simpa using hc2
                      · exact Nat.le_refl _
                  obtain ⟨v', vm₁, ⟨U, lo, ce, sl⟩, -, X', ⟨Lc, hQ, l1, l2, l3⟩, stp⟩ := Jvm.LawKit.callS X hx (y := zOf Q me') hown (mv hZ w1) (mv hZ w2) (mv hZ w3) (mv hZ hcode) LL.2.2.2.2.2.2.2 hB (g := mkF m pc L (st.map (va (rho a n0 (P.al.length + 1))))) rfl hsize hll hsm (by show 2 * 0 + _ ≤ _; rw [cats_va]; omega) hd hpre
                  dsimp only [Pt.U, Pt.locs, Pt.cells, Pt.slots] at X' hQ l1 l2 l3 stp
                  subst l1 l2 l3
                  obtain ⟨⟨rfl, hva⟩, hF', hI'⟩ := hQ
                  rw [hz1, hz2] at X'
                  have hcn := lexec_cnt _ _ _ _ _ _ _ _ _ hg0 hcl
                  have e1 : lco P mi w2' = lco P mi w := by simp only [lco, hcn]
                  have e2 : lzo P Q mi w2' = lzo P Q mi w := by simp only [lzo, hcn]
                  refine Don.step (fun t q => stp t ?_) (ihk p l e s₀ m args below meth cd U (locs ++ Lc) _ ls (v'.toList ++ st.drop me'.na) _ v w' L hx hZ hown hret hml hlk hs0 hdec hr' (by rw [e1, e2]; exact X') (by rw [hcn]; exact hc1) (by rw [hcn]; exact hc2) hI' (hFr.app hF') hL hlen)
                  rw [List.map_append, hva] at q; exact q
              · rw [if_neg hla] at hr; cases hr
            · cases hr
      -- the rest
      · split at hr
        · split at hr
          · rename_i u hu
            cases hr
            refine st_ret X hx hret hlk hu hd hn ⟨⟨rfl, cret_va hu⟩, hFr, I⟩ ?_ ?_
            · simp only [lco, lRoom] at *; split
              · simpa using hc1
              · exact Nat.le_refl _
            · simp only [lzo, lRoom] at *; split
              · simpa using hc2
              · exact Nat.le_refl _
          · cases hr
        · split at hr
          · rename_i pc' ls' st' hp
            obtain ⟨L', hL', hLs, st⟩ := pstep_sound X hx hp hd hn hL
            have hlen' : ls'.length = me.ml := by rw [← hL'.1, hLs, hL.1]; exact hlen
            exact Don.step st (ihk p l e s₀ m args below meth cd T locs _ ls' st' w v w' L' hx hZ hown hret hml hlk hs0 hdec hr X hc1 hc2 I hFr hL' hlen')
          · cases hr
/-- the law as a whole: what the machine returns, the program returns -/
theorem law_met {P : Cl} {Q : Lw} {sc : Sc} {Z : State} {a0 : Array Value} (LK : LinkC P Z a0) (LL : LinkL P Q Z a0) {a f : Nat} {me : Me} (hme : asc Q.ms 0 = some me) (l : Launch) {bytes : ByteArray} {ws : List Cond}
    (hdec : ∀ pc i n, fetch me.cd pc = some (i, n) → decode bytes pc = .ok (i, n) ∧ (isSw i = true ∨ n = ilen i))
    {as : List Value} (hnd : nd as = true) (hlen : (layA as).length ≤ me.ml) {v : Option Value} {w' : Wd} {h : Heap} (hr : lexec P Q sc f 0 me 0 (lay as me.ml) [] (fun _ => s0, 0, false) = some (v, w')) (hS : SRep Z h a h.size sc) :
    MetFree l (zOf Q me) (head1 (Cond.code (zOf Q me) bytes me.ml (retOf me.rt) :: ws) (lRoom Q 0 me)) (fun b U => b = (as.map (va (rho a h.size (P.al.length + 1)))).toArray ∧ Z.Warmed39 U.vm ∧ U.heap = h) (fun _ _ _ _ _ => True)
      (fun _ U o U' => ∃ u L, o = .returned u ∧ (u = v ∧ Fr h.size L) ∧ FrameEnd U o U' L Q.rc Q.rs) := by
  refine MetFree.of_bodySF (plainFor_of_name LL.2.2.2.2.2.2.1) hisR ?_
  intro p e s₀ m args below meth cd s₁ Bd hml hP hK
  obtain ⟨rfl, hZ, hh⟩ := hP
  have e0 : s₁.heap = h := by rw [← hh, Bd.state]; rfl
  have X0 : Stand p l e (lRoom Q 0 me) s₀ m _ below meth cd s₁ [] 0 0 := Stand.of_body Bd
  have hown : s₀.vm.findClass Q.nm = some m.cls := findClass_of_methodNamed Bd.named
  have hk0 : lco P 0 (fun _ => s0, 0, false) = 0 := by simp [lco]
  have hz0 : lzo P Q 0 (fun _ => s0, 0, false) = 0 := by simp [lzo]
  have D := lwalk LK LL (sc := sc) (a := a) (n0 := h.size) f 0 me hme p l e s₀ m _ below meth cd s₁ [] 0 (lay as me.ml) [] (fun _ => s0, 0, false) v w' _ Bd.exec hZ hown Bd.returns hml Bd.notSynchronized (fun _ => by rw [hh])
    (fun pc i n q => by rw [Bd.bytes]; exact hdec pc i n q) hr (by rw [hk0, hz0]; exact X0) (by simp) (by simp) (by
      rw [e0]; exact ⟨hS, fun o ho => absurd ho (Nat.not_lt_zero _), fun q => by simp at q, by simp⟩) (Fr.nil _) (lay_LR (nd_spec hnd) hlen) (lay_len hlen)
  obtain ⟨s₂, o, a1, a2, a3, u, L, a4, a5, a6⟩ := D
  refine ⟨s₂, o, a1, a2, a3, u, L, a4, ⟨a5.1.1, a5.2.1⟩, ?_⟩
  simpa [lRoom] using a6
end Jvm.LM

namespace Jvm.LM
open Sem ClassFile Op Lib Jvm.Stand Jvm.Free Jvm.LawKit Jvm.RoadKit
/-! what a run of the machine comes to -/
theorem cstep_mono {α : Type} {P : Cl} {mi : Nat} {me : Me} {rt : Option Value → St → Option α} {cl cl' : Nat → Nat → List Value → St → Rs} {k k' : Nat → Nat → Lv → List Value → St → Option α} {i : Instr} {c pc : Nat} {ls : Lv} {st : List Value} {s : St} {r : α}
    (hcl : ∀ m c as s r, cl m c as s = some r → cl' m c as s = some r) (hk : ∀ c pc ls st s r, k c pc ls st s = some r → k' c pc ls st s = some r) (h : cstep P mi me rt cl k i c pc ls st s = some r) : cstep P mi me rt cl' k' i c pc ls st s = some r := by
  unfold cstep at h ⊢
  split at h
  all_goals (try dsimp only)
  · split at h
    · split at h
      · exact hk _ _ _ _ _ _ h
      · cases h
    · cases h
  · split at h
    · split at h
      · exact hk _ _ _ _ _ _ h
      · cases h
    · cases h
  · split at h
    · exact hk _ _ _ _ _ _ h
    · cases h
  · split at h
    · exact hk _ _ _ _ _ _ h
    · cases h
  · split at h
    · exact hk _ _ _ _ _ _ h
    · cases h
  · split at h
    · exact hk _ _ _ _ _ _ h
    · cases h
  · split at h
    · exact hk _ _ _ _ _ _ h
    · cases h
  · split at h
    · exact hk _ _ _ _ _ _ h
    · cases h
  · split at h
    · rename_i q; rw [if_pos q]; exact hk _ _ _ _ _ _ h
    · cases h
  · split at h
    · exact hk _ _ _ _ _ _ h
    · cases h
  · split at h
    · exact hk _ _ _ _ _ _ h
    · cases h
  · split at h
    · split at h
      · rename_i q; rw [if_pos q]; exact hk _ _ _ _ _ _ h
      · cases h
    · cases h
  · split at h
    · cases h
    · rename_i m' hm'
      split at h
      · cases h
      · rename_i me' hme'
        split at h
        · rename_i r0 hst
          split at h
          · rename_i q
            rw [if_pos q]
            split at h
            · rename_i s1 hc; rw [hcl _ _ _ _ _ hc]; exact hk _ _ _ _ _ _ h
            · rename_i v1 s1 hc; rw [hcl _ _ _ _ _ hc]; exact hk _ _ _ _ _ _ h
            · cases h
          · cases h
        · cases h
  · split at h
    · rename_i q; rw [if_pos q]; exact h
    · rename_i q; rw [if_neg q]
      split at h
      · exact hk _ _ _ _ _ _ h
      · cases h
theorem cexec_succ {P : Cl} : ∀ f mi me c pc ls st s r, cexec P f mi me c pc ls st s = some r → cexec P (f + 1) mi me c pc ls st s = some r := by
  intro f
  induction f with
  | zero => intro mi me c pc ls st s r h; cases h
  | succ f ih =>
    intro mi me c pc ls st s r h
    rw [cexec] at h ⊢
    split at h
    · cases h
    · refine cstep_mono (fun m c as s r h => ?_) (fun c pc ls st s r h => ih _ _ _ _ _ _ _ _ h) h
      split at h
      · split at h
        · rename_i q; rw [if_pos q]; exact ih _ _ _ _ _ _ _ _ h
        · cases h
      · cases h
theorem cexec_le {P : Cl} {f g mi : Nat} {me : Me} {c pc : Nat} {ls : Lv} {st : List Value} {s : St} {r : Option Value × St} (hfg : f ≤ g) (h : cexec P f mi me c pc ls st s = some r) : cexec P g mi me c pc ls st s = some r := by
  obtain ⟨d, rfl⟩ := Nat.le.dest hfg
  induction d with
  | zero => exact h
  | succ d ih => exact cexec_succ _ _ _ _ _ _ _ _ _ (ih (Nat.le_add_right _ _))
theorem ccall_le {P : Cl} {f g m' c : Nat} {as : List Value} {s : St} {r : Option Value × St} (hfg : f ≤ g) (h : ccall P f m' c as s = some r) : ccall P g m' c as s = some r := by
  unfold ccall at h ⊢
  split at h
  · split at h
    · rename_i q; rw [if_pos q]; exact cexec_le hfg h
    · cases h
  · cases h
def wpc (P : Cl) (mi : Nat) (me : Me) (c pc : Nat) (ls : Lv) (st : List Value) (s : St) (Q : Option Value → St → Prop) : Prop := ∃ f v s', cexec P f mi me c pc ls st s = some (v, s') ∧ Q v s'
def cal (P : Cl) (m' c : Nat) (as : List Value) (s : St) (Q : Option Value → St → Prop) : Prop := ∃ f v s', ccall P f m' c as s = some (v, s') ∧ Q v s'
def calI (P : Cl) (m' c : Nat) (as : List Value) (s : St) (Q : Int32 → St → Prop) : Prop := cal P m' c as s fun r s' => ∃ v, r = some (.int v) ∧ Q v s'
def calL (P : Cl) (m' c : Nat) (as : List Value) (s : St) (Q : Int64 → St → Prop) : Prop := cal P m' c as s fun r s' => ∃ v, r = some (.long v) ∧ Q v s'
def calV (P : Cl) (m' c : Nat) (as : List Value) (s : St) (Q : St → Prop) : Prop := cal P m' c as s fun r s' => r = none ∧ Q s'
theorem cstep_nat {α : Type} {P : Cl} {mi : Nat} {me : Me} {k : Nat → Nat → Lv → List Value → St → Option α} {i : Instr} {c pc : Nat} {ls : Lv} {st : List Value} {s : St} {x : α}
    (h : cstep P mi me (fun _ _ => none) (fun _ _ _ _ => none) k i c pc ls st s = some x) : ∃ c' pc' ls' st' s', k c' pc' ls' st' s' = some x ∧ ∀ (β : Type) (rt : Option Value → St → Option β) cl (k' : Nat → Nat → Lv → List Value → St → Option β), cstep P mi me rt cl k' i c pc ls st s = k' c' pc' ls' st' s' := by
  unfold cstep at h
  split at h
  · split at h
    · split at h
      · rename_i q; exact ⟨_, _, _, _, _, h, fun β rt cl k' => by simp only [cstep, q]⟩
      · cases h
    · cases h
  · split at h
    · split at h
      · rename_i q; exact ⟨_, _, _, _, _, h, fun β rt cl k' => by simp only [cstep, q]⟩
      · cases h
    · cases h
  · split at h
    · rename_i q; exact ⟨_, _, _, _, _, h, fun β rt cl k' => by simp only [cstep, q]⟩
    · cases h
  · split at h
    · rename_i q; exact ⟨_, _, _, _, _, h, fun β rt cl k' => by simp only [cstep, q]⟩
    · cases h
  · split at h
    · rename_i q; exact ⟨_, _, _, _, _, h, fun β rt cl k' => by simp only [cstep, q]⟩
    · cases h
  · split at h
    · rename_i q; exact ⟨_, _, _, _, _, h, fun β rt cl k' => by simp only [cstep, q]⟩
    · cases h
  · split at h
    · rename_i q; exact ⟨_, _, _, _, _, h, fun β rt cl k' => by simp only [cstep, q]⟩
    · cases h
  · split at h
    · rename_i q; exact ⟨_, _, _, _, _, h, fun β rt cl k' => by simp only [cstep, q]⟩
    · cases h
  · split at h
    · rename_i q; exact ⟨_, _, _, _, _, h, fun β rt cl k' => by simp only [cstep]; rw [if_pos q]⟩
    · cases h
  · split at h
    · rename_i q; exact ⟨_, _, _, _, _, h, fun β rt cl k' => by simp only [cstep, q]⟩
    · cases h
  · split at h
    · rename_i q; exact ⟨_, _, _, _, _, h, fun β rt cl k' => by simp only [cstep, q]⟩
    · cases h
  · split at h
    · split at h
      · rename_i q; exact ⟨_, _, _, _, _, h, fun β rt cl k' => by simp only [cstep]; rw [if_pos q]⟩
      · cases h
    · cases h
  · split at h
    · cases h
    · split at h
      · cases h
      · split at h
        · split at h
          · cases h
          · cases h
        · cases h
  · rename_i n1 n2 n3 n4 n5 n6 n7 n8 n9 n10 n11 n12 n13
    split at h
    · split at h
      · cases h
      · split at h <;> cases h
    · rename_i hr
      split at h
      · rename_i pc' ls' st' hp
        refine ⟨_, _, _, _, _, h, fun β rt cl k' => ?_⟩
        unfold cstep
        split <;> first | (exfalso; first | exact n1 _ rfl | exact n2 _ rfl | exact n3 rfl | exact n4 rfl | exact n5 rfl | exact n6 rfl | exact n7 rfl | exact n8 rfl | exact n9 _ rfl | exact n10 _ rfl | exact n11 _ rfl | exact n12 _ rfl | exact n13 _ rfl) | skip
        rw [if_neg hr, hp]
      · cases h
def csl (P : Cl) (mi : Nat) (me : Me) : Nat → Nat → Nat → Lv → List Value → St → Option (Nat × Nat × Lv × List Value × St)
  | 0, c, pc, ls, st, s => some (c, pc, ls, st, s)
  | n + 1, c, pc, ls, st, s => match fetch me.cd pc with
    | none => none
    | some (i, _) => cstep P mi me (fun _ _ => none) (fun _ _ _ _ => none) (csl P mi me n) i c pc ls st s
theorem wpc_one {P : Cl} {mi : Nat} {me : Me} {c pc c' pc' : Nat} {ls ls' : Lv} {st st' : List Value} {s s' : St} {Q : Option Value → St → Prop} {i : Instr} {n : Nat} (hf : fetch me.cd pc = some (i, n))
    (h : ∀ (rt : Option Value → St → Rs) cl (k : Nat → Nat → Lv → List Value → St → Rs), cstep P mi me rt cl k i c pc ls st s = k c' pc' ls' st' s') (hq : wpc P mi me c' pc' ls' st' s' Q) : wpc P mi me c pc ls st s Q := by
  obtain ⟨f, v, s2, h1, h2⟩ := hq
  refine ⟨f + 1, v, s2, ?_, h2⟩
  rw [cexec, hf]; dsimp only; rw [h]; exact h1
theorem wpc_sl {P : Cl} {mi : Nat} {me : Me} {Q : Option Value → St → Prop} : ∀ {n c pc c' pc' : Nat} {ls ls' : Lv} {st st' : List Value} {s s' : St}, csl P mi me n c pc ls st s = some (c', pc', ls', st', s') → wpc P mi me c' pc' ls' st' s' Q → wpc P mi me c pc ls st s Q := by
  intro n
  induction n with
  | zero => intro c pc c' pc' ls ls' st st' s s' h hq; cases h; exact hq
  | succ n ih =>
    intro c pc c' pc' ls ls' st st' s s' h hq
    simp only [csl] at h
    split at h
    · cases h
    · rename_i i m hf
      obtain ⟨c1, pc1, ls1, st1, s1, h1, h2⟩ := cstep_nat h
      exact wpc_one hf (fun rt cl k => h2 _ rt cl k) (ih h1 hq)
theorem wpc_ret {P : Cl} {mi : Nat} {me : Me} {c pc : Nat} {ls : Lv} {st : List Value} {s : St} {Q : Option Value → St → Prop} {i : Instr} {n : Nat} {v : Option Value} (hf : fetch me.cd pc = some (i, n)) (hr : isRet i = true) (hc : mi = 0 → c = P.al.length) (h : cret me st i = some v) (hq : Q v s) : wpc P mi me c pc ls st s Q := by
  refine ⟨1, v, s, ?_, hq⟩
  rw [cexec, hf]; dsimp only
  have hc' : ¬ (mi = 0 ∧ c ≠ P.al.length) := fun q => q.2 (hc q.1)
  cases i <;> first | (cases hr; done) | (simp only [cstep]; rw [if_pos hr, if_neg hc', h])
theorem wpc_if {P : Cl} {mi : Nat} {me : Me} {c pc a b : Nat} {ls : Lv} {r : List Value} {s : St} {Q : Option Value → St → Prop} {cd : ClassFile.Cond} {o : Int} {n : Nat} {x : Int32} (hf : fetch me.cd pc = some (.ifCond cd o, n)) (ho : 0 ≤ (pc : Int) + o) (ha : jmp pc o = a) (hb : pc + 3 = b)
    (hq : wpc P mi me c (br cd x 0 a b) ls r s Q) : wpc P mi me c pc ls (.int x :: r) s Q := by
  subst ha hb
  refine wpc_one hf (fun rt cl k => ?_) hq
  show (match pstep (.ifCond cd o) pc ls (.int x :: r) with | some (pc', ls', st') => k c pc' ls' st' s | none => none) = _
  simp only [pstep, qstep]; rw [if_pos ho]
theorem wpc_icmp {P : Cl} {mi : Nat} {me : Me} {c pc a b : Nat} {ls : Lv} {r : List Value} {s : St} {Q : Option Value → St → Prop} {cd : ClassFile.Cond} {o : Int} {n : Nat} {x y : Int32} (hf : fetch me.cd pc = some (.if_icmp cd o, n)) (ho : 0 ≤ (pc : Int) + o) (ha : jmp pc o = a) (hb : pc + 3 = b)
    (hq : wpc P mi me c (br cd x y a b) ls r s Q) : wpc P mi me c pc ls (.int y :: .int x :: r) s Q := by
  subst ha hb
  refine wpc_one hf (fun rt cl k => ?_) hq
  show (match pstep (.if_icmp cd o) pc ls (.int y :: .int x :: r) with | some (pc', ls', st') => k c pc' ls' st' s | none => none) = _
  simp only [pstep, qstep]; rw [if_pos ho]
/-- the two roads of a branch -/
theorem wpc_br {P : Cl} {mi : Nat} {me : Me} {c a b : Nat} {ls : Lv} {st : List Value} {s : St} {Q : Option Value → St → Prop} {p : Prop} [Decidable p] (h : (p → wpc P mi me c a ls st s Q) ∧ (¬ p → wpc P mi me c b ls st s Q)) : wpc P mi me c (if p then a else b) ls st s Q := by
  by_cases hp : p
  · rw [if_pos hp]; exact h.1 hp
  · rw [if_neg hp]; exact h.2 hp
theorem wpc_lda {P : Cl} {mi : Nat} {me : Me} {c pc a tt N : Nat} {ls : Lv} {r : List Value} {s : St} {Q : Option Value → St → Prop} {i : Instr} {n : Nat} {j : Int32} (hf : fetch me.cd pc = some (i, n)) (hi : (tt = 0 ∧ i = .iaload) ∨ (tt = 1 ∧ i = .baload) ∨ (tt = 2 ∧ i = .laload)) (ha : P.al[a]? = some (tt, N)) (hac : a < c)
    (hj : inb N j) (hq : wpc P mi me c (pc + 1) ls (elv tt s (a + 1) (ix j) :: r) s Q) : wpc P mi me c pc ls (.int j :: .ref (a + 1) :: r) s Q := by
  have hl : lda P tt c (.int j :: .ref (a + 1) :: r) s = some (elv tt s (a + 1) (ix j) :: r) := by
    simp only [lda, ha]; rw [if_pos ⟨trivial, hac⟩, if_pos hj]; rfl
  refine wpc_one hf (fun rt cl k => ?_) hq
  rcases hi with ⟨rfl, rfl⟩ | ⟨rfl, rfl⟩ | ⟨rfl, rfl⟩ <;> simp only [cstep, hl]
theorem wpc_sta {P : Cl} {mi : Nat} {me : Me} {c pc a tt N : Nat} {ls : Lv} {r : List Value} {s s' : St} {Q : Option Value → St → Prop} {i : Instr} {n : Nat} {j : Int32} {v : Value} (hf : fetch me.cd pc = some (i, n)) (hi : (tt = 0 ∧ i = .iastore ∧ ∃ z, v = .int z ∧ s' = sI s (a + 1) (ix j) z) ∨ (tt = 1 ∧ i = .bastore ∧ ∃ z, v = .int z ∧ s' = sI s (a + 1) (ix j) (z &&& 1)) ∨ (tt = 2 ∧ i = .lastore ∧ ∃ z, v = .long z ∧ s' = sL s (a + 1) (ix j) z)) (ha : P.al[a]? = some (tt, N)) (hac : a < c)
    (hj : inb N j) (hq : wpc P mi me c (pc + 1) ls r s' Q) : wpc P mi me c pc ls (v :: .int j :: .ref (a + 1) :: r) s Q := by
  have hl : sta P tt c (v :: .int j :: .ref (a + 1) :: r) s = some (r, s') := by
    simp only [sta, ha]; rw [if_pos ⟨trivial, hac⟩, if_pos hj]
    rcases hi with ⟨rfl, -, z, rfl, rfl⟩ | ⟨rfl, -, z, rfl, rfl⟩ | ⟨rfl, -, z, rfl, rfl⟩ <;> rfl
  refine wpc_one hf (fun rt cl k => ?_) hq
  rcases hi with ⟨rfl, rfl, -⟩ | ⟨rfl, rfl, -⟩ | ⟨rfl, rfl, -⟩ <;> simp only [cstep, hl]
theorem wpc_call {P : Cl} {mi : Nat} {me me' : Me} {c pc x m' : Nat} {ls : Lv} {st r as : List Value} {s : St} {Q : Option Value → St → Prop} {n : Nat} (hf : fetch me.cd pc = some (.invokevirtual x, n)) (hm : asc P.mx x = some m') (hme : asc P.ms m' = some me') (hst : st.drop me'.na = .ref 0 :: r) (has : (st.take me'.na).reverse = as)
    (hg : m' ≠ 0 ∧ me'.rf + 1 ≤ me.rf ∧ cats r + (me'.ml + 11) + me'.rl ≤ me.rl ∧ nd (st.take me'.na) = true)
    (hq : cal P m' c (.ref 0 :: as) s fun v s' => wpc P mi me c (pc + 3) ls (v.toList ++ r) s' Q) : wpc P mi me c pc ls st s Q := by
  subst has
  obtain ⟨f1, v, s1, h1, f2, v2, s2, h2, h3⟩ := hq
  refine ⟨max f1 f2 + 1, v2, s2, ?_, h3⟩
  have h1' := ccall_le (Nat.le_max_left f1 f2) h1
  have h2' := cexec_le (Nat.le_max_right f1 f2) h2
  rw [cexec, hf]; dsimp only
  simp only [cstep, hm, hme, hst]
  rw [if_pos hg]
  simp only [ccall, hme] at h1'
  rw [h1']
  cases v <;> exact h2'
theorem cal_of {P : Cl} {m' c : Nat} {as : List Value} {s : St} {Q : Option Value → St → Prop} {me : Me} {ls : Lv} (hme : asc P.ms m' = some me) (hl : (layA as).length ≤ me.ml) (hls : lay as me.ml = ls) (h : wpc P m' me c 0 ls [] s Q) : cal P m' c as s Q := by
  subst hls
  obtain ⟨f, v, s', h1, h2⟩ := h
  refine ⟨f, v, s', ?_, h2⟩
  simp only [ccall, hme]; rw [if_pos hl]; exact h1
theorem cal.mono {P : Cl} {m' c : Nat} {as : List Value} {s : St} {Q Q' : Option Value → St → Prop} (h : cal P m' c as s Q) (hq : ∀ v s', Q v s' → Q' v s') : cal P m' c as s Q' := by
  obtain ⟨f, v, s', h1, h2⟩ := h; exact ⟨f, v, s', h1, hq _ _ h2⟩
theorem calI.mono {P : Cl} {m' c : Nat} {as : List Value} {s : St} {Q Q' : Int32 → St → Prop} (h : calI P m' c as s Q) (hq : ∀ v s', Q v s' → Q' v s') : calI P m' c as s Q' := cal.mono h fun _ _ ⟨v, e, q⟩ => ⟨v, e, hq _ _ q⟩
theorem calL.mono {P : Cl} {m' c : Nat} {as : List Value} {s : St} {Q Q' : Int64 → St → Prop} (h : calL P m' c as s Q) (hq : ∀ v s', Q v s' → Q' v s') : calL P m' c as s Q' := cal.mono h fun _ _ ⟨v, e, q⟩ => ⟨v, e, hq _ _ q⟩
theorem calV.mono {P : Cl} {m' c : Nat} {as : List Value} {s : St} {Q Q' : St → Prop} (h : calV P m' c as s Q) (hq : ∀ s', Q s' → Q' s') : calV P m' c as s Q' := cal.mono h fun _ _ ⟨e, q⟩ => ⟨e, hq _ q⟩
theorem wpc.mono {P : Cl} {mi : Nat} {me : Me} {c pc : Nat} {ls : Lv} {st : List Value} {s : St} {Q Q' : Option Value → St → Prop} (h : wpc P mi me c pc ls st s Q) (hq : ∀ v s', Q v s' → Q' v s') : wpc P mi me c pc ls st s Q' := by
  obtain ⟨f, v, s', h1, h2⟩ := h; exact ⟨f, v, s', h1, hq _ _ h2⟩
theorem wpc_callI {P : Cl} {mi : Nat} {me me' : Me} {c pc x m' : Nat} {ls : Lv} {st r as : List Value} {s : St} {Q : Option Value → St → Prop} {n : Nat} (hf : fetch me.cd pc = some (.invokevirtual x, n)) (hm : asc P.mx x = some m') (hme : asc P.ms m' = some me') (hst : st.drop me'.na = .ref 0 :: r) (has : (st.take me'.na).reverse = as)
    (hg : m' ≠ 0 ∧ me'.rf + 1 ≤ me.rf ∧ cats r + (me'.ml + 11) + me'.rl ≤ me.rl ∧ nd (st.take me'.na) = true)
    (hq : calI P m' c (.ref 0 :: as) s fun v s' => wpc P mi me c (pc + 3) ls (.int v :: r) s' Q) : wpc P mi me c pc ls st s Q :=
  wpc_call hf hm hme hst has hg (cal.mono hq fun _ _ ⟨v, e, q⟩ => by subst e; exact q)
theorem wpc_callL {P : Cl} {mi : Nat} {me me' : Me} {c pc x m' : Nat} {ls : Lv} {st r as : List Value} {s : St} {Q : Option Value → St → Prop} {n : Nat} (hf : fetch me.cd pc = some (.invokevirtual x, n)) (hm : asc P.mx x = some m') (hme : asc P.ms m' = some me') (hst : st.drop me'.na = .ref 0 :: r) (has : (st.take me'.na).reverse = as)
    (hg : m' ≠ 0 ∧ me'.rf + 1 ≤ me.rf ∧ cats r + (me'.ml + 11) + me'.rl ≤ me.rl ∧ nd (st.take me'.na) = true)
    (hq : calL P m' c (.ref 0 :: as) s fun v s' => wpc P mi me c (pc + 3) ls (.long v :: r) s' Q) : wpc P mi me c pc ls st s Q :=
  wpc_call hf hm hme hst has hg (cal.mono hq fun _ _ ⟨v, e, q⟩ => by subst e; exact q)
theorem wpc_callV {P : Cl} {mi : Nat} {me me' : Me} {c pc x m' : Nat} {ls : Lv} {st r as : List Value} {s : St} {Q : Option Value → St → Prop} {n : Nat} (hf : fetch me.cd pc = some (.invokevirtual x, n)) (hm : asc P.mx x = some m') (hme : asc P.ms m' = some me') (hst : st.drop me'.na = .ref 0 :: r) (has : (st.take me'.na).reverse = as)
    (hg : m' ≠ 0 ∧ me'.rf + 1 ≤ me.rf ∧ cats r + (me'.ml + 11) + me'.rl ≤ me.rl ∧ nd (st.take me'.na) = true)
    (hq : calV P m' c (.ref 0 :: as) s fun s' => wpc P mi me c (pc + 3) ls r s' Q) : wpc P mi me c pc ls st s Q :=
  wpc_call hf hm hme hst has hg (cal.mono hq fun _ _ ⟨e, q⟩ => by subst e; exact q)
/-- both roads of a value -/
theorem wp_val {p : Prop} [Decidable p] {α : Sort _} {F : α → Prop} {x y : α} (h : F (if p then x else y)) : (p → F x) ∧ (¬ p → F y) := ⟨fun q => by rw [if_pos q] at h; exact h, fun q => by rw [if_neg q] at h; exact h⟩
end Jvm.LM

namespace Jvm.LM
open Sem ClassFile Op Lib Jvm.Stand Jvm.Free Jvm.LawKit Jvm.RoadKit
/-! variables that are not read any more -/
def lle (a b : Lv) : Prop := a.length = b.length ∧ ∀ (k : Nat) (v : Value), a[k]? = some (some v) → b[k]? = some (some v)
def lle' : Lv → Lv → Prop
  | [], [] => True
  | none :: a, _ :: b => lle' a b
  | some v :: a, w :: b => w = some v ∧ lle' a b
  | _, _ => False
theorem lle_of {a b : Lv} (h : lle' a b) : lle a b := by
  induction a generalizing b with
  | nil => cases b with
    | nil => exact ⟨rfl, fun k v hk => hk⟩
    | cons y b => cases h
  | cons x a ih =>
    cases b with
    | nil => cases x <;> cases h
    | cons y b =>
      cases x with
      | none =>
        obtain ⟨h1, h2⟩ := ih (b := b) h
        refine ⟨by simp [h1], fun k v hk => ?_⟩
        cases k with
        | zero => simp at hk
        | succ k => simp at hk ⊢; exact h2 k v hk
      | some x =>
        obtain ⟨e, h⟩ := h
        obtain ⟨h1, h2⟩ := ih (b := b) h
        subst e
        refine ⟨by simp [h1], fun k v hk => ?_⟩
        cases k with
        | zero => exact hk
        | succ k => simp at hk ⊢; exact h2 k v hk
theorem clr_lle {a b : Lv} (h : lle a b) (i : Nat) : (clr a i).length = (clr b i).length ∧ ∀ k v, k ≠ i → (clr a i)[k]? = some (some v) → (clr b i)[k]? = some (some v) := by
  refine ⟨by rw [clr_len, clr_len]; exact h.1, fun k v hk hv => ?_⟩
  obtain ⟨q1, q2⟩ := clr_get hv
  have q3 := h.2 _ _ q1
  cases i with
  | zero => exact q3
  | succ j =>
    simp only [clr]
    split
    · rename_i x e
      rw [List.getElem?_set]
      split
      · rename_i e2; subst e2
        rw [q3] at e; cases e
        exact absurd rfl (q2 rfl)
      · exact q3
    · rename_i x e
      rw [List.getElem?_set]
      split
      · rename_i e2; subst e2
        rw [q3] at e; cases e
        exact absurd rfl (q2 rfl)
      · exact q3
    · exact q3
theorem stl_lle {a b a' : Lv} (h : lle a b) {i : Nat} {v : Value} (hs : stl a i v = some a') : ∃ b', stl b i v = some b' ∧ lle a' b' := by
  obtain ⟨c1, c2⟩ := clr_lle h i
  have hl := h.1
  have one : ∀ w : Value, ∀ k u, ((clr a i).set i (some w))[k]? = some (some u) → ((clr b i).set i (some w))[k]? = some (some u) := fun w k u hk => by
    rw [List.getElem?_set] at hk ⊢
    split
    · rename_i e; rw [if_pos e] at hk; rw [← c1]; exact hk
    · rename_i e; rw [if_neg e] at hk; exact c2 k u (fun q => e q.symm) hk
  unfold stl at hs ⊢
  split at hs
  · rename_i x
    split at hs
    · rename_i q
      cases hs
      refine ⟨((clr b i).set i (some (.long x))).set (i + 1) none, if_pos (by rw [← hl]; exact q), by simp [c1], fun k u hk => ?_⟩
      rw [List.getElem?_set] at hk ⊢
      split
      · rename_i e; rw [if_pos e] at hk; split at hk <;> simp at hk
      · rename_i e; rw [if_neg e] at hk; exact one _ k u hk
    · cases hs
  · split at hs
    · rename_i q
      cases hs
      exact ⟨(clr b i).set i (some v), if_pos (by rw [← hl]; exact q), by simp [c1], fun k u hk => one _ k u hk⟩
    · cases hs
theorem pstep_lle {i : Instr} {pc pc' : Nat} {ls l1 ls' : Lv} {st st' : List Value} (h : pstep i pc ls st = some (pc', l1, st')) (hl : lle ls ls') : ∃ l1', pstep i pc ls' st = some (pc', l1', st') ∧ lle l1 l1' := by
  unfold pstep at h ⊢
  split at h
  all_goals (try dsimp only)
  iterate 6
    · split at h
      · rename_i e; cases h; rw [hl.2 _ _ e]; exact ⟨_, rfl, hl⟩
      · cases h
  iterate 6
    · split at h
      · split at h
        · rename_i e; cases h
          obtain ⟨b', q1, q2⟩ := stl_lle hl e
          rw [q1]; exact ⟨_, rfl, q2⟩
        · cases h
      · cases h
  · split at h
    · rename_i e0
      split at h
      · rename_i e; cases h
        obtain ⟨b', q1, q2⟩ := stl_lle hl e
        rw [hl.2 _ _ e0]; dsimp only; rw [q1]; exact ⟨_, rfl, q2⟩
      · cases h
    · cases h
  · split at h
    · cases h; exact ⟨_, rfl, hl⟩
    · cases h
theorem cstep_lle {P : Cl} {mi : Nat} {me : Me} {rt : Option Value → St → Rs} {cl : Nat → Nat → List Value → St → Rs} {k : Nat → Nat → Lv → List Value → St → Rs} {i : Instr} {c pc : Nat} {ls ls' : Lv} {st : List Value} {s : St} {r : Option Value × St} (hl : lle ls ls')
    (hk : ∀ c pc ls ls' st s, lle ls ls' → k c pc ls st s = some r → k c pc ls' st s = some r) (h : cstep P mi me rt cl k i c pc ls st s = some r) : cstep P mi me rt cl k i c pc ls' st s = some r := by
  unfold cstep at h ⊢
  split at h
  all_goals (try dsimp only)
  · split at h
    · split at h
      · exact hk _ _ _ _ _ _ hl h
      · cases h
    · cases h
  · split at h
    · split at h
      · exact hk _ _ _ _ _ _ hl h
      · cases h
    · cases h
  iterate 6
    · split at h
      · exact hk _ _ _ _ _ _ hl h
      · cases h
  · split at h
    · rename_i q; rw [if_pos q]; exact hk _ _ _ _ _ _ hl h
    · cases h
  iterate 2
    · split at h
      · exact hk _ _ _ _ _ _ hl h
      · cases h
  · split at h
    · split at h
      · rename_i q; rw [if_pos q]; exact hk _ _ _ _ _ _ hl h
      · cases h
    · cases h
  · split at h
    · cases h
    · split at h
      · cases h
      · split at h
        · split at h
          · rename_i q
            rw [if_pos q]
            split at h
            · exact hk _ _ _ _ _ _ hl h
            · exact hk _ _ _ _ _ _ hl h
            · cases h
          · cases h
        · cases h
  · split at h
    · rename_i q; rw [if_pos q]; exact h
    · rename_i q; rw [if_neg q]
      split at h
      · rename_i e
        obtain ⟨l1', q1, q2⟩ := pstep_lle e hl
        rw [q1]; exact hk _ _ _ _ _ _ q2 h
      · cases h
theorem cexec_lle {P : Cl} : ∀ f mi me c pc ls ls' st s r, lle ls ls' → cexec P f mi me c pc ls st s = some r → cexec P f mi me c pc ls' st s = some r := by
  intro f
  induction f with
  | zero => intro mi me c pc ls ls' st s r _ h; cases h
  | succ f ih =>
    intro mi me c pc ls ls' st s r hl h
    rw [cexec] at h ⊢
    split at h
    · cases h
    · exact cstep_lle hl (fun c pc ls ls' st s hl h => ih _ _ _ _ _ _ _ _ _ hl h) h
theorem wpc_lle {P : Cl} {mi : Nat} {me : Me} {c pc : Nat} {ls ls' : Lv} {st : List Value} {s : St} {Q : Option Value → St → Prop} (hl : lle' ls ls') (h : wpc P mi me c pc ls st s Q) : wpc P mi me c pc ls' st s Q := by
  obtain ⟨f, v, s', h1, h2⟩ := h; exact ⟨f, v, s', cexec_lle _ _ _ _ _ _ _ _ _ _ (lle_of hl) h1, h2⟩
end Jvm.LM

namespace Jvm.LM
open Sem ClassFile Op Lib Jvm.Stand Jvm.Free Jvm.LawKit Jvm.RoadKit
theorem lstep_mono {α : Type} {P : Cl} {Q : Lw} {sc : Sc} {mi : Nat} {me : Me} {rt : Option Value → Wd → Option α} {cc cc' : Nat → Nat → List Value → St → Rs} {cl cl' : Nat → List Value → Wd → Rw} {k k' : Nat → Lv → List Value → Wd → Option α} {i : Instr} {pc : Nat} {ls : Lv} {st : List Value} {w : Wd} {r : α}
    (hcc : ∀ m c as s r, cc m c as s = some r → cc' m c as s = some r) (hcl : ∀ m as s r, cl m as s = some r → cl' m as s = some r) (hk : ∀ pc ls st s r, k pc ls st s = some r → k' pc ls st s = some r) (h : lstep P Q sc mi me rt cc cl k i pc ls st w = some r) : lstep P Q sc mi me rt cc' cl' k' i pc ls st w = some r := by
  unfold lstep at h ⊢
  split at h
  all_goals (try dsimp only)
  · split at h
    · split at h
      · rename_i q; rw [if_pos q]; exact hk _ _ _ _ _ h
      · cases h
    · cases h
  · split at h
    · exact hk _ _ _ _ _ h
    · cases h
  · split at h
    · exact hk _ _ _ _ _ h
    · cases h
  · split at h
    · exact hk _ _ _ _ _ h
    · cases h
  · split at h
    · rename_i q; rw [if_pos q]; exact hk _ _ _ _ _ h
    · cases h
  · split at h
    · cases h
    · split at h
      · split at h
        · rename_i q
          rw [if_pos q]
          split at h
          · rename_i s1 hc; rw [hcc _ _ _ _ _ hc]; exact hk _ _ _ _ _ h
          · cases h
        · cases h
      · cases h
  · split at h
    · cases h
    · split at h
      · cases h
      · split at h
        · split at h
          · rename_i q
            rw [if_pos q]
            split at h
            · rename_i s1 hc; rw [hcc _ _ _ _ _ hc]; exact hk _ _ _ _ _ h
            · rename_i v1 s1 hc; rw [hcc _ _ _ _ _ hc]; exact hk _ _ _ _ _ h
            · cases h
          · cases h
        · cases h
  · split at h
    · cases h
    · split at h
      · cases h
      · split at h
        · rename_i q
          rw [if_pos q]
          split at h
          · rename_i s1 hc; rw [hcl _ _ _ _ hc]; exact hk _ _ _ _ _ h
          · rename_i v1 s1 hc; rw [hcl _ _ _ _ hc]; exact hk _ _ _ _ _ h
          · cases h
        · cases h
  · split at h
    · rename_i q; rw [if_pos q]; exact h
    · rename_i q; rw [if_neg q]
      split at h
      · exact hk _ _ _ _ _ h
      · cases h
theorem lexec_succ {P : Cl} {Q : Lw} {sc : Sc} : ∀ f mi me pc ls st w r, lexec P Q sc f mi me pc ls st w = some r → lexec P Q sc (f + 1) mi me pc ls st w = some r := by
  intro f
  induction f with
  | zero => intro mi me pc ls st s r h; cases h
  | succ f ih =>
    intro mi me pc ls st s r h
    rw [lexec] at h ⊢
    split at h
    · cases h
    · refine lstep_mono (fun m c as s r h => ccall_le (Nat.le_succ _) h) (fun m as s r h => ?_) (fun pc ls st s r h => ih _ _ _ _ _ _ _ h) h
      split at h
      · split at h
        · rename_i q; rw [if_pos q]; exact ih _ _ _ _ _ _ _ h
        · cases h
      · cases h
theorem lexec_le {P : Cl} {Q : Lw} {sc : Sc} {f g mi : Nat} {me : Me} {pc : Nat} {ls : Lv} {st : List Value} {w : Wd} {r : Option Value × Wd} (hfg : f ≤ g) (h : lexec P Q sc f mi me pc ls st w = some r) : lexec P Q sc g mi me pc ls st w = some r := by
  obtain ⟨d, rfl⟩ := Nat.le.dest hfg
  induction d with
  | zero => exact h
  | succ d ih => exact lexec_succ _ _ _ _ _ _ _ _ (ih (Nat.le_add_right _ _))
theorem lcall_le {P : Cl} {Q : Lw} {sc : Sc} {f g m' : Nat} {as : List Value} {w : Wd} {r : Option Value × Wd} (hfg : f ≤ g) (h : lcall P Q sc f m' as w = some r) : lcall P Q sc g m' as w = some r := by
  unfold lcall at h ⊢
  split at h
  · split at h
    · rename_i q; rw [if_pos q]; exact lexec_le hfg h
    · cases h
  · cases h
def wpl (P : Cl) (Q : Lw) (sc : Sc) (mi : Nat) (me : Me) (pc : Nat) (ls : Lv) (st : List Value) (w : Wd) (R : Option Value → Wd → Prop) : Prop := ∃ f v w', lexec P Q sc f mi me pc ls st w = some (v, w') ∧ R v w'
def lal (P : Cl) (Q : Lw) (sc : Sc) (m' : Nat) (as : List Value) (w : Wd) (R : Option Value → Wd → Prop) : Prop := ∃ f v w', lcall P Q sc f m' as w = some (v, w') ∧ R v w'
def lalI (P : Cl) (Q : Lw) (sc : Sc) (m' : Nat) (as : List Value) (w : Wd) (R : Int32 → Wd → Prop) : Prop := lal P Q sc m' as w fun r w' => ∃ v, r = some (.int v) ∧ R v w'
def lalL (P : Cl) (Q : Lw) (sc : Sc) (m' : Nat) (as : List Value) (w : Wd) (R : Int64 → Wd → Prop) : Prop := lal P Q sc m' as w fun r w' => ∃ v, r = some (.long v) ∧ R v w'
def lalV (P : Cl) (Q : Lw) (sc : Sc) (m' : Nat) (as : List Value) (w : Wd) (R : Wd → Prop) : Prop := lal P Q sc m' as w fun r w' => r = none ∧ R w'
theorem lal.mono {P : Cl} {Q : Lw} {sc : Sc} {m' : Nat} {as : List Value} {w : Wd} {R R' : Option Value → Wd → Prop} (h : lal P Q sc m' as w R) (hq : ∀ v s', R v s' → R' v s') : lal P Q sc m' as w R' := by
  obtain ⟨f, v, s', h1, h2⟩ := h; exact ⟨f, v, s', h1, hq _ _ h2⟩
theorem lalI.mono {P : Cl} {Q : Lw} {sc : Sc} {m' : Nat} {as : List Value} {w : Wd} {R R' : Int32 → Wd → Prop} (h : lalI P Q sc m' as w R) (hq : ∀ v s', R v s' → R' v s') : lalI P Q sc m' as w R' := lal.mono h fun _ _ ⟨v, e, q⟩ => ⟨v, e, hq _ _ q⟩
theorem lalL.mono {P : Cl} {Q : Lw} {sc : Sc} {m' : Nat} {as : List Value} {w : Wd} {R R' : Int64 → Wd → Prop} (h : lalL P Q sc m' as w R) (hq : ∀ v s', R v s' → R' v s') : lalL P Q sc m' as w R' := lal.mono h fun _ _ ⟨v, e, q⟩ => ⟨v, e, hq _ _ q⟩
theorem lalV.mono {P : Cl} {Q : Lw} {sc : Sc} {m' : Nat} {as : List Value} {w : Wd} {R R' : Wd → Prop} (h : lalV P Q sc m' as w R) (hq : ∀ s', R s' → R' s') : lalV P Q sc m' as w R' := lal.mono h fun _ _ ⟨e, q⟩ => ⟨e, hq _ q⟩
theorem wpl.mono {P : Cl} {Q : Lw} {sc : Sc} {mi : Nat} {me : Me} {pc : Nat} {ls : Lv} {st : List Value} {w : Wd} {R R' : Option Value → Wd → Prop} (h : wpl P Q sc mi me pc ls st w R) (hq : ∀ v s', R v s' → R' v s') : wpl P Q sc mi me pc ls st w R' := by
  obtain ⟨f, v, s', h1, h2⟩ := h; exact ⟨f, v, s', h1, hq _ _ h2⟩
theorem wpl_one {P : Cl} {Q : Lw} {sc : Sc} {mi : Nat} {me : Me} {pc pc' : Nat} {ls ls' : Lv} {st st' : List Value} {w w' : Wd} {R : Option Value → Wd → Prop} {i : Instr} {n : Nat} (hf : fetch me.cd pc = some (i, n))
    (h : ∀ (rt : Option Value → Wd → Rw) cc cl (k : Nat → Lv → List Value → Wd → Rw), lstep P Q sc mi me rt cc cl k i pc ls st w = k pc' ls' st' w') (hq : wpl P Q sc mi me pc' ls' st' w' R) : wpl P Q sc mi me pc ls st w R := by
  obtain ⟨f, v, s2, h1, h2⟩ := hq
  refine ⟨f + 1, v, s2, ?_, h2⟩
  rw [lexec, hf]; dsimp only; rw [h]; exact h1
/-- plain steps: nothing of the heap, no call -/
def isPl : Instr → Bool
  | .iaload => false | .arraylength => false | .ldc _ => false | .ldc2_w _ => false | .new _ => false | .invokespecial _ => false | .invokevirtual _ => false | .invokestatic _ => false
  | .ireturn => false | .lreturn => false | .return_ => false
  | _ => true
theorem lstep_pl {α : Type} {P : Cl} {Q : Lw} {sc : Sc} {mi : Nat} {me : Me} {rt : Option Value → Wd → Option α} {cc : Nat → Nat → List Value → St → Rs} {cl : Nat → List Value → Wd → Rw} {k : Nat → Lv → List Value → Wd → Option α} {i : Instr} {pc : Nat} {ls : Lv} {st : List Value} {w : Wd} (hi : isPl i = true) :
    lstep P Q sc mi me rt cc cl k i pc ls st w = match pstep i pc ls st with | some (pc', ls', st') => k pc' ls' st' w | none => none := by
  cases i <;> first | (cases hi; done) | rfl
def psl (kx : List (Nat × Value)) (cd : Cd) : Nat → Nat → Lv → List Value → Option (Nat × Lv × List Value)
  | 0, pc, ls, st => some (pc, ls, st)
  | n + 1, pc, ls, st => match fetch cd pc with
    | none => none
    | some (i, _) => match i with
      | .ldc x => (match asc kx x with | some (.int z) => psl kx cd n (pc + 2) ls (.int z :: st) | _ => none)
      | .ldc2_w x => (match asc kx x with | some (.long z) => psl kx cd n (pc + 3) ls (.long z :: st) | _ => none)
      | i => if isPl i = true then (match pstep i pc ls st with | some (pc', ls', st') => psl kx cd n pc' ls' st' | none => none) else none
theorem wpl_sl {P : Cl} {Q : Lw} {sc : Sc} {mi : Nat} {me : Me} {w : Wd} {R : Option Value → Wd → Prop} : ∀ {n pc pc' : Nat} {ls ls' : Lv} {st st' : List Value}, psl Q.kx me.cd n pc ls st = some (pc', ls', st') → wpl P Q sc mi me pc' ls' st' w R → wpl P Q sc mi me pc ls st w R := by
  intro n
  induction n with
  | zero => intro pc pc' ls ls' st st' h hq; cases h; exact hq
  | succ n ih =>
    intro pc pc' ls ls' st st' h hq
    simp only [psl] at h
    split at h
    · cases h
    · rename_i i m hf
      split at h
      · split at h
        · rename_i z e
          exact wpl_one hf (fun rt cc cl k => by simp only [lstep, e]) (ih h hq)
        · cases h
      · split at h
        · rename_i z e
          exact wpl_one hf (fun rt cc cl k => by simp only [lstep, e]) (ih h hq)
        · cases h
      · split at h
        · rename_i hi
          split at h
          · rename_i pc1 ls1 st1 e
            exact wpl_one hf (fun rt cc cl k => by rw [lstep_pl hi, e]) (ih h hq)
          · cases h
        · cases h
theorem wpl_ret {P : Cl} {Q : Lw} {sc : Sc} {mi : Nat} {me : Me} {pc : Nat} {ls : Lv} {st : List Value} {w : Wd} {R : Option Value → Wd → Prop} {i : Instr} {n : Nat} {v : Option Value} (hf : fetch me.cd pc = some (i, n)) (hr : isRet i = true) (h : cret me st i = some v) (hq : R v w) : wpl P Q sc mi me pc ls st w R := by
  refine ⟨1, v, w, ?_, hq⟩
  rw [lexec, hf]; dsimp only
  cases i <;> first | (cases hr; done) | (simp only [lstep]; rw [if_pos hr, h])
theorem wpl_if {P : Cl} {Q : Lw} {sc : Sc} {mi : Nat} {me : Me} {pc a b : Nat} {ls : Lv} {r : List Value} {w : Wd} {R : Option Value → Wd → Prop} {cd : ClassFile.Cond} {o : Int} {n : Nat} {x : Int32} (hf : fetch me.cd pc = some (.ifCond cd o, n)) (ho : 0 ≤ (pc : Int) + o) (ha : jmp pc o = a) (hb : pc + 3 = b)
    (hq : wpl P Q sc mi me (br cd x 0 a b) ls r w R) : wpl P Q sc mi me pc ls (.int x :: r) w R := by
  subst ha hb
  refine wpl_one hf (fun rt cc cl k => ?_) hq
  rw [lstep_pl rfl]
  simp only [pstep, qstep]; rw [if_pos ho]
theorem wpl_icmp {P : Cl} {Q : Lw} {sc : Sc} {mi : Nat} {me : Me} {pc a b : Nat} {ls : Lv} {r : List Value} {w : Wd} {R : Option Value → Wd → Prop} {cd : ClassFile.Cond} {o : Int} {n : Nat} {x y : Int32} (hf : fetch me.cd pc = some (.if_icmp cd o, n)) (ho : 0 ≤ (pc : Int) + o) (ha : jmp pc o = a) (hb : pc + 3 = b)
    (hq : wpl P Q sc mi me (br cd x y a b) ls r w R) : wpl P Q sc mi me pc ls (.int y :: .int x :: r) w R := by
  subst ha hb
  refine wpl_one hf (fun rt cc cl k => ?_) hq
  rw [lstep_pl rfl]
  simp only [pstep, qstep]; rw [if_pos ho]
theorem wpl_br {P : Cl} {Q : Lw} {sc : Sc} {mi : Nat} {me : Me} {a b : Nat} {ls : Lv} {st : List Value} {w : Wd} {R : Option Value → Wd → Prop} {p : Prop} [Decidable p] (h : (p → wpl P Q sc mi me a ls st w R) ∧ (¬ p → wpl P Q sc mi me b ls st w R)) : wpl P Q sc mi me (if p then a else b) ls st w R := by
  by_cases hp : p
  · rw [if_pos hp]; exact h.1 hp
  · rw [if_neg hp]; exact h.2 hp
theorem wpl_lda {P : Cl} {Q : Lw} {N : Nat} {g : Nat → Int32} {mi : Nat} {me : Me} {pc : Nat} {ls : Lv} {r : List Value} {w : Wd} {R : Option Value → Wd → Prop} {n : Nat} {j : Int32} (hf : fetch me.cd pc = some (.iaload, n)) (hj : inb N j) (hq : wpl P Q (some (N, g)) mi me (pc + 1) ls (.int (g (ix j)) :: r) w R) : wpl P Q (some (N, g)) mi me pc ls (.int j :: .ref 0 :: r) w R := by
  refine wpl_one hf (fun rt cc cl k => ?_) hq
  simp only [lstep]; rw [if_pos hj]
theorem wpl_len {P : Cl} {Q : Lw} {N : Nat} {g : Nat → Int32} {mi : Nat} {me : Me} {pc : Nat} {ls : Lv} {r : List Value} {w : Wd} {R : Option Value → Wd → Prop} {n : Nat} (hf : fetch me.cd pc = some (.arraylength, n)) (hq : wpl P Q (some (N, g)) mi me (pc + 1) ls (.int (Int32.ofNat N) :: r) w R) : wpl P Q (some (N, g)) mi me pc ls (.ref 0 :: r) w R := by
  refine wpl_one hf (fun rt cc cl k => ?_) hq
  simp only [lstep]
theorem wpl_new {P : Cl} {Q : Lw} {sc : Sc} {me : Me} {pc cnt : Nat} {ls : Lv} {st : List Value} {os : Nat → St} {R : Option Value → Wd → Prop} {n x : Nat} (hf : fetch me.cd pc = some (.new x, n)) (hx : x = Q.cx) (h1 : (cnt + 1) * (P.al.length + 1) ≤ Q.rc) (h2 : (cnt + 1) * (Q.nf + zs P.al P.al.length) ≤ Q.rs)
    (hq : wpl P Q sc 0 me (pc + 3) ls (.ref (cnt + 1) :: st) (uo os cnt s0, cnt, true) R) : wpl P Q sc 0 me pc ls st (os, cnt, false) R := by
  refine wpl_one hf (fun rt cc cl k => ?_) hq
  simp only [lstep]; rw [if_pos ⟨trivial, hx, trivial, h1, h2⟩]
theorem wpl_ctor {P : Cl} {Q : Lw} {sc : Sc} {me me' : Me} {pc cnt : Nat} {ls : Lv} {st r as : List Value} {os : Nat → St} {R : Option Value → Wd → Prop} {n x : Nat} (hf : fetch me.cd pc = some (.invokespecial x, n)) (hx : x = Q.ci) (hme : asc P.ms 0 = some me') (hst : st.drop me'.na = .ref (cnt + 1) :: r) (has : (st.take me'.na).reverse = as)
    (hg : me'.rf + 1 ≤ me.rf ∧ cats r + (me'.ml + 11) + me'.rl ≤ me.rl ∧ nr (st.take me'.na) = true ∧ (cnt + 1) * (P.al.length + 1) ≤ Q.rc ∧ (cnt + 1) * (Q.nf + zs P.al P.al.length) ≤ Q.rs)
    (hq : calV P 0 0 (.ref 0 :: as) (os cnt) fun s' => wpl P Q sc 0 me (pc + 3) ls r (uo os cnt s', cnt + 1, false) R) : wpl P Q sc 0 me pc ls st (os, cnt, true) R := by
  subst has
  obtain ⟨f1, v, s1, h1, rfl, f2, v2, s2, h2, h3⟩ := hq
  refine ⟨max f1 f2 + 1, v2, s2, ?_, h3⟩
  have h1' := ccall_le (Nat.le_max_left f1 f2) h1
  have h2' := lexec_le (Nat.le_max_right f1 f2) h2
  rw [lexec, hf]; dsimp only
  simp only [lstep, hme, hst]
  rw [if_pos ⟨hx, trivial, trivial, trivial, hg⟩, h1']
  exact h2'
theorem wpl_call {P : Cl} {Q : Lw} {sc : Sc} {mi : Nat} {me me' : Me} {pc x m' o : Nat} {ls : Lv} {st r as : List Value} {w : Wd} {R : Option Value → Wd → Prop} {n : Nat} (hf : fetch me.cd pc = some (.invokevirtual x, n)) (hm : asc Q.vx x = some m') (hme : asc P.ms m' = some me') (hst : st.drop me'.na = .ref (o + 1) :: r) (has : (st.take me'.na).reverse = as)
    (hg : m' ≠ 0 ∧ o < w.2.1 ∧ me'.rf + 1 ≤ me.rf ∧ cats r + (me'.ml + 11) + me'.rl ≤ me.rl ∧ nr (st.take me'.na) = true)
    (hq : cal P m' P.al.length (.ref 0 :: as) (w.1 o) fun v s' => wpl P Q sc mi me (pc + 3) ls (v.toList ++ r) (uo w.1 o s', w.2.1, w.2.2) R) : wpl P Q sc mi me pc ls st w R := by
  subst has
  obtain ⟨f1, v, s1, h1, f2, v2, s2, h2, h3⟩ := hq
  refine ⟨max f1 f2 + 1, v2, s2, ?_, h3⟩
  have h1' := ccall_le (Nat.le_max_left f1 f2) h1
  have h2' := lexec_le (Nat.le_max_right f1 f2) h2
  rw [lexec, hf]; dsimp only
  simp only [lstep, hm, hme, hst]
  rw [if_pos hg, h1']
  cases v <;> exact h2'
theorem wpl_stat {P : Cl} {Q : Lw} {sc : Sc} {mi : Nat} {me me' : Me} {pc x m' : Nat} {ls : Lv} {st r as : List Value} {w : Wd} {R : Option Value → Wd → Prop} {n : Nat} (hf : fetch me.cd pc = some (.invokestatic x, n)) (hm : asc Q.sx x = some m') (hme : asc Q.ms m' = some me') (hst : st.drop me'.na = r) (has : (st.take me'.na).reverse = as)
    (hg : m' ≠ 0 ∧ me'.na ≤ st.length ∧ me'.rf + 1 ≤ me.rf ∧ cats r + (me'.ml + 11) + me'.rl ≤ me.rl ∧ nd (st.take me'.na) = true)
    (hq : lal P Q sc m' as w fun v w' => wpl P Q sc mi me (pc + 3) ls (v.toList ++ r) w' R) : wpl P Q sc mi me pc ls st w R := by
  subst has hst
  obtain ⟨f1, v, s1, h1, f2, v2, s2, h2, h3⟩ := hq
  refine ⟨max f1 f2 + 1, v2, s2, ?_, h3⟩
  have h1' := lcall_le (Nat.le_max_left f1 f2) h1
  have h2' := lexec_le (Nat.le_max_right f1 f2) h2
  rw [lexec, hf]; dsimp only
  simp only [lstep, hm, hme]
  rw [if_pos hg]
  simp only [lcall, hme] at h1'
  rw [h1']
  cases v <;> exact h2'
theorem lal_of {P : Cl} {Q : Lw} {sc : Sc} {m' : Nat} {as : List Value} {w : Wd} {R : Option Value → Wd → Prop} {me : Me} {ls : Lv} (hme : asc Q.ms m' = some me) (hl : (layA as).length ≤ me.ml) (hls : lay as me.ml = ls) (h : wpl P Q sc m' me 0 ls [] w R) : lal P Q sc m' as w R := by
  subst hls
  obtain ⟨f, v, s', h1, h2⟩ := h
  refine ⟨f, v, s', ?_, h2⟩
  simp only [lcall, hme]; rw [if_pos hl]; exact h1
theorem lstep_lle {P : Cl} {Q : Lw} {sc : Sc} {mi : Nat} {me : Me} {rt : Option Value → Wd → Rw} {cc : Nat → Nat → List Value → St → Rs} {cl : Nat → List Value → Wd → Rw} {k : Nat → Lv → List Value → Wd → Rw} {i : Instr} {pc : Nat} {ls ls' : Lv} {st : List Value} {w : Wd} {r : Option Value × Wd} (hl : lle ls ls')
    (hk : ∀ pc ls ls' st s, lle ls ls' → k pc ls st s = some r → k pc ls' st s = some r) (h : lstep P Q sc mi me rt cc cl k i pc ls st w = some r) : lstep P Q sc mi me rt cc cl k i pc ls' st w = some r := by
  unfold lstep at h ⊢
  split at h
  all_goals (try dsimp only)
  · split at h
    · split at h
      · rename_i q; rw [if_pos q]; exact hk _ _ _ _ _ hl h
      · cases h
    · cases h
  iterate 3
    · split at h
      · exact hk _ _ _ _ _ hl h
      · cases h
  · split at h
    · rename_i q; rw [if_pos q]; exact hk _ _ _ _ _ hl h
    · cases h
  · split at h
    · cases h
    · split at h
      · split at h
        · rename_i q
          rw [if_pos q]
          split at h
          · exact hk _ _ _ _ _ hl h
          · cases h
        · cases h
      · cases h
  · split at h
    · cases h
    · split at h
      · cases h
      · split at h
        · split at h
          · rename_i q
            rw [if_pos q]
            split at h
            · exact hk _ _ _ _ _ hl h
            · exact hk _ _ _ _ _ hl h
            · cases h
          · cases h
        · cases h
  · split at h
    · cases h
    · split at h
      · cases h
      · split at h
        · rename_i q
          rw [if_pos q]
          split at h
          · exact hk _ _ _ _ _ hl h
          · exact hk _ _ _ _ _ hl h
          · cases h
        · cases h
  · split at h
    · rename_i q; rw [if_pos q]; exact h
    · rename_i q; rw [if_neg q]
      split at h
      · rename_i e
        obtain ⟨l1', q1, q2⟩ := pstep_lle e hl
        rw [q1]; exact hk _ _ _ _ _ q2 h
      · cases h
theorem lexec_lle {P : Cl} {Q : Lw} {sc : Sc} : ∀ f mi me pc ls ls' st w r, lle ls ls' → lexec P Q sc f mi me pc ls st w = some r → lexec P Q sc f mi me pc ls' st w = some r := by
  intro f
  induction f with
  | zero => intro mi me pc ls ls' st w r _ h; cases h
  | succ f ih =>
    intro mi me pc ls ls' st w r hl h
    rw [lexec] at h ⊢
    split at h
    · cases h
    · exact lstep_lle hl (fun pc ls ls' st s hl h => ih _ _ _ _ _ _ _ _ hl h) h
theorem wpl_lle {P : Cl} {Q : Lw} {sc : Sc} {mi : Nat} {me : Me} {pc : Nat} {ls ls' : Lv} {st : List Value} {w : Wd} {R : Option Value → Wd → Prop} (hl : lle' ls ls') (h : wpl P Q sc mi me pc ls st w R) : wpl P Q sc mi me pc ls' st w R := by
  obtain ⟨f, v, s', h1, h2⟩ := h; exact ⟨f, v, s', lexec_lle _ _ _ _ _ _ _ _ _ (lle_of hl) h1, h2⟩
/-! worlds of no, one and two objects -/
def W0 : Wd := (fun _ => s0, 0, false)
def W0p : Wd := (uo (fun _ => s0) 0 s0, 0, true)
def W1 (s : St) : Wd := (uo (fun _ => s0) 0 s, 1, false)
def W1p (s : St) : Wd := (uo (uo (fun _ => s0) 0 s) 1 s0, 1, true)
def W2 (s t : St) : Wd := (uo (uo (fun _ => s0) 0 s) 1 t, 2, false)
theorem uo_uo (f : Nat → St) (o : Nat) (s t : St) : uo (uo f o s) o t = uo f o t := by
  funext i; simp only [uo]; split <;> rfl
theorem uo_swap (f : Nat → St) {o o' : Nat} (h : o ≠ o') (s t : St) : uo (uo f o s) o' t = uo (uo f o' t) o s := by
  funext i; simp only [uo]
  by_cases a : i = o
  · subst a; simp [h]
  · by_cases b : i = o'
    · subst b; simp [Ne.symm h]
    · simp [a, b]
section Worlds
variable {P : Cl} {Q : Lw} {sc : Sc} {mi : Nat} {me me' : Me} {pc x m' : Nat} {ls : Lv} {st r as : List Value} {R : Option Value → Wd → Prop} {n : Nat} {s t : St}
theorem wpl_new0 (hf : fetch me.cd pc = some (.new x, n)) (hx : x = Q.cx) (h1 : 1 * (P.al.length + 1) ≤ Q.rc) (h2 : 1 * (Q.nf + zs P.al P.al.length) ≤ Q.rs) (hq : wpl P Q sc 0 me (pc + 3) ls (.ref 1 :: st) W0p R) : wpl P Q sc 0 me pc ls st W0 R := wpl_new (cnt := 0) hf hx h1 h2 hq
theorem wpl_new1 (hf : fetch me.cd pc = some (.new x, n)) (hx : x = Q.cx) (h1 : 2 * (P.al.length + 1) ≤ Q.rc) (h2 : 2 * (Q.nf + zs P.al P.al.length) ≤ Q.rs) (hq : wpl P Q sc 0 me (pc + 3) ls (.ref 2 :: st) (W1p s) R) : wpl P Q sc 0 me pc ls st (W1 s) R := wpl_new (cnt := 1) hf hx h1 h2 hq
theorem wpl_ctor0 (hf : fetch me.cd pc = some (.invokespecial x, n)) (hx : x = Q.ci) (hme : asc P.ms 0 = some me') (hst : st.drop me'.na = .ref 1 :: r) (has : (st.take me'.na).reverse = as)
    (hg : me'.rf + 1 ≤ me.rf ∧ cats r + (me'.ml + 11) + me'.rl ≤ me.rl ∧ nr (st.take me'.na) = true ∧ 1 * (P.al.length + 1) ≤ Q.rc ∧ 1 * (Q.nf + zs P.al P.al.length) ≤ Q.rs)
    (hq : calV P 0 0 (.ref 0 :: as) s0 fun s' => wpl P Q sc 0 me (pc + 3) ls r (W1 s') R) : wpl P Q sc 0 me pc ls st W0p R := by
  refine wpl_ctor (cnt := 0) hf hx hme hst has hg ?_
  refine calV.mono (show calV P 0 0 (.ref 0 :: as) (uo (fun _ => s0) 0 s0 0) _ from hq) fun s' h => ?_
  rw [uo_uo]; exact h
theorem wpl_ctor1 (hf : fetch me.cd pc = some (.invokespecial x, n)) (hx : x = Q.ci) (hme : asc P.ms 0 = some me') (hst : st.drop me'.na = .ref 2 :: r) (has : (st.take me'.na).reverse = as)
    (hg : me'.rf + 1 ≤ me.rf ∧ cats r + (me'.ml + 11) + me'.rl ≤ me.rl ∧ nr (st.take me'.na) = true ∧ 2 * (P.al.length + 1) ≤ Q.rc ∧ 2 * (Q.nf + zs P.al P.al.length) ≤ Q.rs)
    (hq : calV P 0 0 (.ref 0 :: as) s0 fun s' => wpl P Q sc 0 me (pc + 3) ls r (W2 s s') R) : wpl P Q sc 0 me pc ls st (W1p s) R := by
  refine wpl_ctor (cnt := 1) hf hx hme hst has hg ?_
  refine calV.mono (show calV P 0 0 (.ref 0 :: as) (uo (uo (fun _ => s0) 0 s) 1 s0 1) _ from hq) fun s' h => ?_
  rw [uo_uo]; exact h
theorem wpl_v1 (hf : fetch me.cd pc = some (.invokevirtual x, n)) (hm : asc Q.vx x = some m') (hme : asc P.ms m' = some me') (hst : st.drop me'.na = .ref 1 :: r) (has : (st.take me'.na).reverse = as)
    (hg : m' ≠ 0 ∧ me'.rf + 1 ≤ me.rf ∧ cats r + (me'.ml + 11) + me'.rl ≤ me.rl ∧ nr (st.take me'.na) = true)
    (hq : cal P m' P.al.length (.ref 0 :: as) s fun v s' => wpl P Q sc mi me (pc + 3) ls (v.toList ++ r) (W1 s') R) : wpl P Q sc mi me pc ls st (W1 s) R := by
  refine wpl_call (o := 0) hf hm hme hst has ⟨hg.1, by show 0 < 1; decide, hg.2⟩ ?_
  refine cal.mono (show cal P m' P.al.length (.ref 0 :: as) ((W1 s).1 0) _ from hq) fun v s' h => ?_
  show wpl P Q sc mi me (pc + 3) ls (v.toList ++ r) (uo (uo (fun _ => s0) 0 s) 0 s', 1, false) R
  rw [uo_uo]; exact h
theorem wpl_v2a (hf : fetch me.cd pc = some (.invokevirtual x, n)) (hm : asc Q.vx x = some m') (hme : asc P.ms m' = some me') (hst : st.drop me'.na = .ref 1 :: r) (has : (st.take me'.na).reverse = as)
    (hg : m' ≠ 0 ∧ me'.rf + 1 ≤ me.rf ∧ cats r + (me'.ml + 11) + me'.rl ≤ me.rl ∧ nr (st.take me'.na) = true)
    (hq : cal P m' P.al.length (.ref 0 :: as) s fun v s' => wpl P Q sc mi me (pc + 3) ls (v.toList ++ r) (W2 s' t) R) : wpl P Q sc mi me pc ls st (W2 s t) R := by
  refine wpl_call (o := 0) hf hm hme hst has ⟨hg.1, by show 0 < 2; decide, hg.2⟩ ?_
  refine cal.mono (show cal P m' P.al.length (.ref 0 :: as) ((W2 s t).1 0) _ from hq) fun v s' h => ?_
  show wpl P Q sc mi me (pc + 3) ls (v.toList ++ r) (uo (uo (uo (fun _ => s0) 0 s) 1 t) 0 s', 2, false) R
  rw [uo_swap _ (by decide), uo_uo]; exact h
theorem wpl_v2b (hf : fetch me.cd pc = some (.invokevirtual x, n)) (hm : asc Q.vx x = some m') (hme : asc P.ms m' = some me') (hst : st.drop me'.na = .ref 2 :: r) (has : (st.take me'.na).reverse = as)
    (hg : m' ≠ 0 ∧ me'.rf + 1 ≤ me.rf ∧ cats r + (me'.ml + 11) + me'.rl ≤ me.rl ∧ nr (st.take me'.na) = true)
    (hq : cal P m' P.al.length (.ref 0 :: as) t fun v s' => wpl P Q sc mi me (pc + 3) ls (v.toList ++ r) (W2 s s') R) : wpl P Q sc mi me pc ls st (W2 s t) R := by
  refine wpl_call (o := 1) hf hm hme hst has ⟨hg.1, by show 1 < 2; decide, hg.2⟩ ?_
  refine cal.mono (show cal P m' P.al.length (.ref 0 :: as) ((W2 s t).1 1) _ from hq) fun v s' h => ?_
  show wpl P Q sc mi me (pc + 3) ls (v.toList ++ r) (uo (uo (uo (fun _ => s0) 0 s) 1 t) 1 s', 2, false) R
  rw [uo_uo]; exact h
end Worlds
theorem cal_I {P : Cl} {m' c : Nat} {as : List Value} {s : St} {F : Option Value → St → Prop} (h : calI P m' c as s fun v s' => F (some (.int v)) s') : cal P m' c as s F := cal.mono h fun _ _ ⟨v, e, q⟩ => by subst e; exact q
theorem cal_L {P : Cl} {m' c : Nat} {as : List Value} {s : St} {F : Option Value → St → Prop} (h : calL P m' c as s fun v s' => F (some (.long v)) s') : cal P m' c as s F := cal.mono h fun _ _ ⟨v, e, q⟩ => by subst e; exact q
theorem cal_V {P : Cl} {m' c : Nat} {as : List Value} {s : St} {F : Option Value → St → Prop} (h : calV P m' c as s fun s' => F none s') : cal P m' c as s F := cal.mono h fun _ _ ⟨e, q⟩ => by subst e; exact q
theorem lal_I {P : Cl} {Q : Lw} {sc : Sc} {m' : Nat} {as : List Value} {w : Wd} {F : Option Value → Wd → Prop} (h : lalI P Q sc m' as w fun v w' => F (some (.int v)) w') : lal P Q sc m' as w F := lal.mono h fun _ _ ⟨v, e, q⟩ => by subst e; exact q
theorem lal_L {P : Cl} {Q : Lw} {sc : Sc} {m' : Nat} {as : List Value} {w : Wd} {F : Option Value → Wd → Prop} (h : lalL P Q sc m' as w fun v w' => F (some (.long v)) w') : lal P Q sc m' as w F := lal.mono h fun _ _ ⟨v, e, q⟩ => by subst e; exact q
theorem lal_V {P : Cl} {Q : Lw} {sc : Sc} {m' : Nat} {as : List Value} {w : Wd} {F : Option Value → Wd → Prop} (h : lalV P Q sc m' as w fun w' => F none w') : lal P Q sc m' as w F := lal.mono h fun _ _ ⟨e, q⟩ => by subst e; exact q
end Jvm.LM

namespace Jvm.LM
open Sem ClassFile Op Lib Jvm.Stand Jvm.Free Jvm.LawKit Jvm.RoadKit
/-! rules for the steps that ask something -/
abbrev wpcI (P : Cl) (mi : Nat) (me : Me) (c pc : Nat) (ls : Lv) (st : List Value) (s : St) (Q : Int32 → St → Prop) : Prop := wpc P mi me c pc ls st s fun r s' => ∃ v, r = some (.int v) ∧ Q v s'
abbrev wpcL (P : Cl) (mi : Nat) (me : Me) (c pc : Nat) (ls : Lv) (st : List Value) (s : St) (Q : Int64 → St → Prop) : Prop := wpc P mi me c pc ls st s fun r s' => ∃ v, r = some (.long v) ∧ Q v s'
abbrev wpcV (P : Cl) (mi : Nat) (me : Me) (c pc : Nat) (ls : Lv) (st : List Value) (s : St) (Q : St → Prop) : Prop := wpc P mi me c pc ls st s fun r s' => r = none ∧ Q s'
abbrev wplI (P : Cl) (Q : Lw) (sc : Sc) (mi : Nat) (me : Me) (pc : Nat) (ls : Lv) (st : List Value) (w : Wd) (R : Int32 → Wd → Prop) : Prop := wpl P Q sc mi me pc ls st w fun r w' => ∃ v, r = some (.int v) ∧ R v w'
abbrev wplL (P : Cl) (Q : Lw) (sc : Sc) (mi : Nat) (me : Me) (pc : Nat) (ls : Lv) (st : List Value) (w : Wd) (R : Int64 → Wd → Prop) : Prop := wpl P Q sc mi me pc ls st w fun r w' => ∃ v, r = some (.long v) ∧ R v w'
abbrev wplV (P : Cl) (Q : Lw) (sc : Sc) (mi : Nat) (me : Me) (pc : Nat) (ls : Lv) (st : List Value) (w : Wd) (R : Wd → Prop) : Prop := wpl P Q sc mi me pc ls st w fun r w' => r = none ∧ R w'
section C
variable {P : Cl} {mi : Nat} {me : Me} {c pc a N n : Nat} {ls : Lv} {r : List Value} {s s' : St} {Q : Option Value → St → Prop} {j : Int32}
theorem wpc_ldaI {v : Int32} (hf : fetch me.cd pc = some (.iaload, n)) (ha : P.al[a]? = some (0, N)) (hac : a < c) (hj : inb N j) (hv : gI s (a + 1) (ix j) = v) (hq : wpc P mi me c (pc + 1) ls (.int v :: r) s Q) : wpc P mi me c pc ls (.int j :: .ref (a + 1) :: r) s Q := by
  subst hv; exact wpc_lda hf (Or.inl ⟨rfl, rfl⟩) ha hac hj hq
theorem wpc_ldaZ {v : Int32} (hf : fetch me.cd pc = some (.baload, n)) (ha : P.al[a]? = some (1, N)) (hac : a < c) (hj : inb N j) (hv : gI s (a + 1) (ix j) = v) (hq : wpc P mi me c (pc + 1) ls (.int v :: r) s Q) : wpc P mi me c pc ls (.int j :: .ref (a + 1) :: r) s Q := by
  subst hv; exact wpc_lda hf (Or.inr (Or.inl ⟨rfl, rfl⟩)) ha hac hj hq
theorem wpc_ldaJ {v : Int64} (hf : fetch me.cd pc = some (.laload, n)) (ha : P.al[a]? = some (2, N)) (hac : a < c) (hj : inb N j) (hv : gL s (a + 1) (ix j) = v) (hq : wpc P mi me c (pc + 1) ls (.long v :: r) s Q) : wpc P mi me c pc ls (.int j :: .ref (a + 1) :: r) s Q := by
  subst hv; exact wpc_lda hf (Or.inr (Or.inr ⟨rfl, rfl⟩)) ha hac hj hq
theorem wpc_staI {z : Int32} (hf : fetch me.cd pc = some (.iastore, n)) (ha : P.al[a]? = some (0, N)) (hac : a < c) (hj : inb N j) (hs : sI s (a + 1) (ix j) z = s') (hq : wpc P mi me c (pc + 1) ls r s' Q) : wpc P mi me c pc ls (.int z :: .int j :: .ref (a + 1) :: r) s Q :=
  wpc_sta hf (Or.inl ⟨rfl, rfl, z, rfl, hs.symm⟩) ha hac hj hq
theorem wpc_staZ {z : Int32} (hf : fetch me.cd pc = some (.bastore, n)) (ha : P.al[a]? = some (1, N)) (hac : a < c) (hj : inb N j) (hs : sI s (a + 1) (ix j) (z &&& 1) = s') (hq : wpc P mi me c (pc + 1) ls r s' Q) : wpc P mi me c pc ls (.int z :: .int j :: .ref (a + 1) :: r) s Q :=
  wpc_sta hf (Or.inr (Or.inl ⟨rfl, rfl, z, rfl, hs.symm⟩)) ha hac hj hq
theorem wpc_staJ {z : Int64} (hf : fetch me.cd pc = some (.lastore, n)) (ha : P.al[a]? = some (2, N)) (hac : a < c) (hj : inb N j) (hs : sL s (a + 1) (ix j) z = s') (hq : wpc P mi me c (pc + 1) ls r s' Q) : wpc P mi me c pc ls (.long z :: .int j :: .ref (a + 1) :: r) s Q :=
  wpc_sta hf (Or.inr (Or.inr ⟨rfl, rfl, z, rfl, hs.symm⟩)) ha hac hj hq
theorem wpc_pl {i : Instr} {pc' : Nat} {ls' : Lv} {st st' : List Value} (hf : fetch me.cd pc = some (i, n)) (hi : ∀ (rt : Option Value → St → Rs) cl (k : Nat → Nat → Lv → List Value → St → Rs), cstep P mi me rt cl k i c pc ls st s = match pstep i pc ls st with | some (pc', ls', st') => k c pc' ls' st' s | none => none) (h : pstep i pc ls st = some (pc', ls', st')) (hq : wpc P mi me c pc' ls' st' s Q) : wpc P mi me c pc ls st s Q :=
  wpc_one hf (fun rt cl k => by rw [hi, h]) hq
theorem wpc_idiv {x y : Int32} (hf : fetch me.cd pc = some (.idiv, n)) (hy : ¬ y = 0) (hq : wpc P mi me c (pc + 1) ls (.int (x / y) :: r) s Q) : wpc P mi me c pc ls (.int y :: .int x :: r) s Q :=
  wpc_pl hf (fun _ _ _ => rfl) (by simp only [pstep, qstep]; rw [if_neg hy]) hq
theorem wpc_irem {x y : Int32} (hf : fetch me.cd pc = some (.irem, n)) (hy : ¬ y = 0) (hq : wpc P mi me c (pc + 1) ls (.int (x % y) :: r) s Q) : wpc P mi me c pc ls (.int y :: .int x :: r) s Q :=
  wpc_pl hf (fun _ _ _ => rfl) (by simp only [pstep, qstep]; rw [if_neg hy]) hq
theorem wpc_ldiv {x y : Int64} (hf : fetch me.cd pc = some (.ldiv, n)) (hy : ¬ y = 0) (hq : wpc P mi me c (pc + 1) ls (.long (x / y) :: r) s Q) : wpc P mi me c pc ls (.long y :: .long x :: r) s Q :=
  wpc_pl hf (fun _ _ _ => rfl) (by simp only [pstep, qstep]; rw [if_neg hy]) hq
end C
/-- the roads of a switch: one a value, from l on -/
def TS (x : Int32) (F : Int → Prop) : List Int → Int → Prop
  | [], _ => True
  | o :: r, l => (x.toInt = l → F o) ∧ TS x F r (l + 1)
theorem TS_at {x : Int32} {F : Int → Prop} : ∀ {os : List Int} {l : Int}, TS x F os l → l ≤ x.toInt → x.toInt < l + os.length → ∃ o, os[(x.toInt - l).toNat]? = some o ∧ F o := by
  intro os
  induction os with
  | nil => intro l _ h1 h2; simp at h2; omega
  | cons o r ih =>
    intro l h h1 h2
    by_cases e : x.toInt = l
    · exact ⟨o, by rw [e]; simp, h.1 e⟩
    · obtain ⟨o', q1, q2⟩ := ih h.2 (by omega) (by simp at h2; omega)
      refine ⟨o', ?_, q2⟩
      have : (x.toInt - l).toNat = (x.toInt - (l + 1)).toNat + 1 := by omega
      rw [this]; simpa using q1
theorem tsw_ok {x : Int32} {F : Int → Prop} {pc : Nat} {ls : Lv} {r : List Value} {d lo hi : Int} {offs : Array Int} (hd : 0 ≤ (pc : Int) + d) (ho : ∀ o ∈ offs.toList, 0 ≤ (pc : Int) + o) (hh : hi + 1 = lo + offs.toList.length)
    (h1 : TS x F offs.toList lo) (h2 : (x.toInt < lo ∨ x.toInt > hi) → F d) : ∃ o, F o ∧ pstep (.tableswitch d lo hi offs) pc ls (.int x :: r) = some (jmp pc o, ls, r) := by
  by_cases hx : x.toInt < lo ∨ x.toInt > hi
  · refine ⟨d, h2 hx, ?_⟩
    simp only [pstep, qstep]; rw [if_pos hx, if_pos hd]
  · obtain ⟨o, q1, q2⟩ := TS_at h1 (by omega) (by omega)
    have q3 : offs[(x.toInt - lo).toNat]? = some o := by rw [← Array.getElem?_toList]; exact q1
    refine ⟨o, q2, ?_⟩
    simp only [pstep, qstep]; rw [if_neg hx, q3]; dsimp only; rw [if_pos (ho o (List.mem_of_getElem? q1))]
theorem wpc_tsw {P : Cl} {mi : Nat} {me : Me} {c pc n : Nat} {ls : Lv} {r : List Value} {s : St} {Q : Option Value → St → Prop} {x : Int32} {d lo hi : Int} {offs : Array Int} (hf : fetch me.cd pc = some (.tableswitch d lo hi offs, n)) (hd : 0 ≤ (pc : Int) + d) (ho : ∀ o ∈ offs.toList, 0 ≤ (pc : Int) + o) (hh : hi + 1 = lo + offs.toList.length)
    (h1 : TS x (fun o => wpc P mi me c (jmp pc o) ls r s Q) offs.toList lo) (h2 : (x.toInt < lo ∨ x.toInt > hi) → wpc P mi me c (jmp pc d) ls r s Q) : wpc P mi me c pc ls (.int x :: r) s Q := by
  obtain ⟨o, q1, q2⟩ := tsw_ok (ls := ls) (r := r) hd ho hh h1 h2
  exact wpc_pl hf (fun _ _ _ => rfl) q2 q1
section L
variable {P : Cl} {Q : Lw} {sc : Sc} {mi : Nat} {me : Me} {pc n : Nat} {ls : Lv} {r : List Value} {w : Wd} {R : Option Value → Wd → Prop}
theorem wpl_pl {i : Instr} {pc' : Nat} {ls' : Lv} {st st' : List Value} (hf : fetch me.cd pc = some (i, n)) (hi : isPl i = true) (h : pstep i pc ls st = some (pc', ls', st')) (hq : wpl P Q sc mi me pc' ls' st' w R) : wpl P Q sc mi me pc ls st w R :=
  wpl_one hf (fun rt cc cl k => by rw [lstep_pl hi, h]) hq
theorem wpl_idiv {x y : Int32} (hf : fetch me.cd pc = some (.idiv, n)) (hy : ¬ y = 0) (hq : wpl P Q sc mi me (pc + 1) ls (.int (x / y) :: r) w R) : wpl P Q sc mi me pc ls (.int y :: .int x :: r) w R :=
  wpl_pl hf rfl (by simp only [pstep, qstep]; rw [if_neg hy]) hq
theorem wpl_irem {x y : Int32} (hf : fetch me.cd pc = some (.irem, n)) (hy : ¬ y = 0) (hq : wpl P Q sc mi me (pc + 1) ls (.int (x % y) :: r) w R) : wpl P Q sc mi me pc ls (.int y :: .int x :: r) w R :=
  wpl_pl hf rfl (by simp only [pstep, qstep]; rw [if_neg hy]) hq
theorem wpl_ldiv {x y : Int64} (hf : fetch me.cd pc = some (.ldiv, n)) (hy : ¬ y = 0) (hq : wpl P Q sc mi me (pc + 1) ls (.long (x / y) :: r) w R) : wpl P Q sc mi me pc ls (.long y :: .long x :: r) w R :=
  wpl_pl hf rfl (by simp only [pstep, qstep]; rw [if_neg hy]) hq
theorem wpl_tsw {x : Int32} {d lo hi : Int} {offs : Array Int} (hf : fetch me.cd pc = some (.tableswitch d lo hi offs, n)) (hd : 0 ≤ (pc : Int) + d) (ho : ∀ o ∈ offs.toList, 0 ≤ (pc : Int) + o) (hh : hi + 1 = lo + offs.toList.length)
    (h1 : TS x (fun o => wpl P Q sc mi me (jmp pc o) ls r w R) offs.toList lo) (h2 : (x.toInt < lo ∨ x.toInt > hi) → wpl P Q sc mi me (jmp pc d) ls r w R) : wpl P Q sc mi me pc ls (.int x :: r) w R := by
  obtain ⟨o, q1, q2⟩ := tsw_ok (ls := ls) (r := r) hd ho hh h1 h2
  exact wpl_pl hf rfl q2 q1
end L
/-! the links, by lists -/
def AllA {α : Type} (Q : Nat → α → Prop) : List (Nat × α) → Prop
  | [] => True
  | (a, b) :: r => Q a b ∧ AllA Q r
theorem asc_all {α : Type} {Q : Nat → α → Prop} {l : List (Nat × α)} (h : AllA Q l) : ∀ k v, asc l k = some v → Q k v := by
  induction l with
  | nil => intro k v e; cases e
  | cons x r ih =>
    intro k v e
    obtain ⟨a, b⟩ := x
    simp only [asc] at e
    cases q : Nat.beq a k
    · rw [q] at e; exact ih h.2 k v e
    · rw [q] at e; cases e
      obtain rfl := Nat.eq_of_beq_eq_true q
      exact h.1
def AllL (Q : Nat → Nat → Prop) : List (Nat × Nat) → Prop
  | [] => True
  | (a, b) :: r => Q a b ∧ AllL Q r
theorem lst_all {Q : Nat → Nat → Prop} {l : List (Nat × Nat)} (h : AllL Q l) : ∀ (j tt N : Nat), l[j]? = some (tt, N) → Q tt N := by
  induction l with
  | nil => intro j tt N e; simp at e
  | cons x r ih =>
    intro j tt N e
    obtain ⟨a, b⟩ := x
    cases j with
    | zero => simp at e; obtain ⟨rfl, rfl⟩ := e; exact h.1
    | succ j => simp at e; exact ih h.2 j tt N e
def dst1 (k : Nat) (fe : Fe) : List (Nat × Fe) → Bool
  | [] => true
  | (k', fe') :: r => (!(fe.1 == fe'.1)) && (decide (fe.2.2.1 < 3) || !(Nat.beq fe.2.2.1 fe'.2.2.1)) && dst1 k fe r
def dst : List (Nat × Fe) → Bool
  | [] => true
  | (k, fe) :: r => dst1 k fe r && dst r
theorem dst1_ok {k : Nat} {fe : Fe} {l : List (Nat × Fe)} (h : dst1 k fe l = true) : ∀ k' fe', asc l k' = some fe' → fe.1 ≠ fe'.1 ∧ (3 ≤ fe.2.2.1 → fe.2.2.1 ≠ fe'.2.2.1) := by
  induction l with
  | nil => intro k' fe' e; cases e
  | cons x r ih =>
    intro k' fe' e
    obtain ⟨a, b⟩ := x
    simp only [dst1, Bool.and_eq_true] at h
    obtain ⟨⟨h1, h2⟩, h3⟩ := h
    simp only [asc] at e
    cases q : Nat.beq a k'
    · rw [q] at e; exact ih h3 k' fe' e
    · rw [q] at e; cases e
      refine ⟨fun q2 => by rw [q2] at h1; simp at h1, fun q2 q3 => ?_⟩
      rw [q3] at h2 q2
      simp only [Bool.or_eq_true, decide_eq_true_eq, Bool.not_eq_true'] at h2
      rcases h2 with h2 | h2
      · omega
      · rw [Nat.beq_refl] at h2; cases h2
theorem dst_ok {l : List (Nat × Fe)} (h : dst l = true) : ∀ (k k' : Nat) (fe fe' : Fe), asc l k = some fe → asc l k' = some fe' → k ≠ k' → fe.1 ≠ fe'.1 ∧ (3 ≤ fe.2.2.1 → fe.2.2.1 ≠ fe'.2.2.1) := by
  induction l with
  | nil => intro k k' fe fe' e; cases e
  | cons x r ih =>
    intro k k' fe fe' e e' hne
    obtain ⟨a, b⟩ := x
    simp only [dst, Bool.and_eq_true] at h
    simp only [asc] at e e'
    cases q : Nat.beq a k <;> cases q' : Nat.beq a k' <;> rw [q] at e <;> rw [q'] at e'
    · exact ih h.2 k k' fe fe' e e' hne
    · cases e'
      obtain ⟨h1, h2⟩ := dst1_ok h.1 k fe e
      exact ⟨Ne.symm h1, fun z1 z2 => h2 (z2 ▸ z1) z2.symm⟩
    · cases e; exact dst1_ok h.1 k' fe' e'
    · exact absurd ((Nat.eq_of_beq_eq_true q).symm.trans (Nat.eq_of_beq_eq_true q')) hne
def chk (bytes : ByteArray) : Cd → Bool
  | [] => true
  | (pc, i, n) :: r => (match decode bytes pc with | .ok (i', n') => decide (i' = i ∧ n' = n) | .error _ => false) && (isSw i || Nat.beq n (ilen i)) && chk bytes r
theorem chk_ok {bytes : ByteArray} {cd : Cd} (h : chk bytes cd = true) : ∀ pc i n, fetch cd pc = some (i, n) → decode bytes pc = .ok (i, n) ∧ (isSw i = true ∨ n = ilen i) := by
  induction cd with
  | nil => intro pc i n e; cases e
  | cons x r ih =>
    intro pc i n e
    obtain ⟨a, i', n'⟩ := x
    simp only [chk, Bool.and_eq_true] at h
    obtain ⟨⟨h1, h2⟩, h3⟩ := h
    simp only [fetch] at e
    cases q : Nat.beq a pc
    · rw [q] at e; exact ih h3 pc i n e
    · rw [q] at e; cases e
      obtain rfl := Nat.eq_of_beq_eq_true q
      refine ⟨?_, ?_⟩
      · split at h1
        · rename_i i2 n2 hd
          obtain ⟨rfl, rfl⟩ := of_decide_eq_true h1
          exact hd
        · cases h1
      · simp only [Bool.or_eq_true] at h2
        exact h2.imp id Nat.eq_of_beq_eq_true
/-- the array that the law is handed -/
theorem script_of {s : State} {args : Array Value} {a : Addr} {cl : Cell} {t : Term} {k : Int32} (hf : Fit s) (A : Arr s s.heap a cl .int) (ev : t.eval args s none [] s = some (.ref a)) (hl : (Cond.le (Term.length t) (Term.int k)).value args s none s [] = some true) :
    (cl.slots.size < 2 ^ 31 ∧ (cl.slots.size : Int) ≤ k.toInt) ∧ SRep s s.heap a s.heap.size (some (cl.slots.size, fun i => match cl.slots[i]? with | some (.int x) => x | _ => 0)) := by
  obtain ⟨x, y, h1, h2, -⟩ := cmp_v (Or.inr (Or.inr hl))
  have hz : cl.slots.size < 2 ^ 31 := by
    have q : (Term.length t).eval args s none [] s = if cl.slots.size < 2 ^ 31 then some (.int cl.slots.size.toInt32) else none := by simp [Term.eval, ev, A.fin (Vm.Alike.refl _)]
    rw [h1] at q
    split at q
    · assumption
    · cases q
  have h1' := len_f ev (A.fin (Vm.Alike.refl _)) hz (args := args) (first := s) (o := none) (idx := [])
  have hle := gotT (Cond.le_ints h1' (Term.int_eval k)) hl
  rw [Int32.le_iff_toInt_le, len_toInt hz] at hle
  refine ⟨⟨hz, hle⟩, A.lt, cl, A, rfl, fun i hi => ?_⟩
  have e1 : cl.slots[i]? = some cl.slots[i] := Array.getElem?_eq_getElem hi
  have q := elem_fit hf A (j := i.toInt32) (idx_in hi hz)
  have e2 : i.toInt32.toNatClampNeg = i := by
    have := len_toInt (n := i) (by omega)
    simp only [Int32.toNatClampNeg, this]; rfl
  rw [e2] at q
  obtain ⟨v, hv, hfv⟩ := q
  obtain ⟨x, rfl⟩ := fit_I hfv (Or.inl rfl)
  rw [hv]
  dsimp only
  rw [hv]
end Jvm.LM
namespace Jvm.LM
theorem law_run {P : Cl} {Q : Lw} {sc : Sc} {as : List Value} (h : lalI P Q sc 0 as W0 fun v _ => v = 1) {me : Me} (hme : asc Q.ms 0 = some me) : ∃ f w', lexec P Q sc f 0 me 0 (lay as me.ml) [] W0 = some (some (.int 1), w') := by
  obtain ⟨f, v, w', h1, v', rfl, rfl⟩ := h
  refine ⟨f, w', ?_⟩
  simp only [lcall, hme] at h1
  split at h1
  · exact h1
  · cases h1
end Jvm.LM

namespace Jvm.LM
open Jvm.RoadKit
/-! numbers -/
theorem i32_add {x y : Int32} (h1 : -2147483648 ≤ x.toInt + y.toInt) (h2 : x.toInt + y.toInt < 2147483648) : (x + y).toInt = x.toInt + y.toInt := by
  have := c_iadd x y; have := rng32 (x + y); omega
theorem i32_sub {x y : Int32} (h1 : -2147483648 ≤ x.toInt - y.toInt) (h2 : x.toInt - y.toInt < 2147483648) : (x - y).toInt = x.toInt - y.toInt := by
  have := c_isub x y; have := rng32 (x - y); omega
theorem i32_mul {x y : Int32} (h1 : -2147483648 ≤ x.toInt * y.toInt) (h2 : x.toInt * y.toInt < 2147483648) : (x * y).toInt = x.toInt * y.toInt := by
  have := c_imul x y; have := rng32 (x * y); omega
theorem ix_int {i : Int32} (h : 0 ≤ i.toInt) : (ix i : Int) = i.toInt := by simp only [ix, Int32.toNatClampNeg]; omega
theorem ix_inj {i j : Int32} (hi : 0 ≤ i.toInt) (hj : 0 ≤ j.toInt) : ix i = ix j ↔ i = j := by
  have a := ix_int hi; have b := ix_int hj
  rw [← Int32.toInt_inj]; omega
theorem i32_lt {x y : Int32} : x < y ↔ x.toInt < y.toInt := Int32.lt_iff_toInt_lt
theorem i32_eq {x y : Int32} : x = y ↔ x.toInt = y.toInt := Int32.toInt_inj.symm
/-- a loop that counts up to N: from the next turn to this one -/
theorem loop_up {F : Int32 → Prop} (N : Int) (hN : N < 2147483647) (step : ∀ i, 0 ≤ i.toInt → i.toInt < N → (i + 1).toInt = i.toInt + 1 → F (i + 1) → F i) (last : ∀ i, i.toInt = N → F i) : ∀ i, 0 ≤ i.toInt → i.toInt ≤ N → F i := by
  have key : ∀ n : Nat, ∀ i : Int32, 0 ≤ i.toInt → i.toInt + n = N → F i := by
    intro n
    induction n with
    | zero => intro i h0 h1; exact last i (by omega)
    | succ n ih =>
      intro i h0 h1
      have e : (i + 1).toInt = i.toInt + 1 := i32_add (by simp; omega) (by simp; omega)
      exact step i h0 (by omega) e (ih (i + 1) (by omega) (by omega))
  intro i h0 h1
  exact key (N - i.toInt).toNat i h0 (by omega)
theorem cmpL_lt {x y : Int64} : Jvm.Free.XT.cmpL x y < 0 ↔ x < y := by
  unfold Jvm.Free.XT.cmpL; split
  · rename_i h; exact ⟨fun q => absurd q (by decide), fun q => by rw [Int64.lt_iff_toInt_lt] at h q; omega⟩
  · split
    · rename_i h; subst h; exact ⟨fun q => absurd q (by decide), fun q => by rw [Int64.lt_iff_toInt_lt] at q; omega⟩
    · rename_i h1 h2
      refine ⟨fun _ => ?_, fun _ => by decide⟩
      rw [Int64.lt_iff_toInt_lt] at h1 ⊢; rw [← Int64.toInt_inj] at h2; omega
theorem cmpL_gt {x y : Int64} : 0 < Jvm.Free.XT.cmpL x y ↔ y < x := by
  unfold Jvm.Free.XT.cmpL; split
  · rename_i h; exact ⟨fun _ => h, fun _ => by decide⟩
  · rename_i h; split
    · exact ⟨fun q => absurd q (by decide), fun q => absurd q h⟩
    · exact ⟨fun q => absurd q (by decide), fun q => absurd q h⟩
theorem cmpL_eq {x y : Int64} : Jvm.Free.XT.cmpL x y = 0 ↔ x = y := by
  unfold Jvm.Free.XT.cmpL; split
  · rename_i h; exact ⟨fun q => absurd q (by decide), fun q => by subst q; rw [Int64.lt_iff_toInt_lt] at h; omega⟩
  · split
    · rename_i h; exact ⟨fun _ => h, fun _ => rfl⟩
    · rename_i h1 h2; exact ⟨fun q => absurd q (by decide), fun q => absurd q h2⟩
end Jvm.LM

namespace Jvm.Pilot.@@N@@
open Jvm Jvm.ClassFile Sem Op Lib Jvm.Free Jvm.Stand Jvm.LawKit Jvm.RoadKit Jvm.LM Bundle Jvm.Pilot.@@N@@.Jvm.D
def cm0 : Me := ("<init>", "(III)V", 3, 0, [(0, .aload_n 0, 1), (1, .invokespecial 1, 3), (4, .aload_n 0, 1), (5, .bipush 64, 2), (7, .putfield 7, 3), (10, .aload_n 0, 1), (11, .iconst 4, 1), (12, .putfield 13, 3), (15, .aload_n 0, 1), (16, .bipush 64, 2), (18, .newarray .int, 2), (20, .putfield 16, 3), (23, .aload_n 0, 1), (24, .bipush 64, 2), (26, .newarray .int, 2), (28, .putfield 20, 3), (31, .aload_n 0, 1), (32, .bipush 64, 2), (34, .newarray .int, 2), (36, .putfield 23, 3), (39, .aload_n 0, 1), (40, .bipush 64, 2), (42, .newarray .int, 2), (44, .putfield 26, 3), (47, .aload_n 0, 1), (48, .bipush 64, 2), (50, .newarray .int, 2), (52, .putfield 29, 3), (55, .aload_n 0, 1), (56, .bipush 64, 2), (58, .newarray .int, 2), (60, .putfield 32, 3), (63, .aload_n 0, 1), (64, .bipush 64, 2), (66, .newarray .int, 2), (68, .putfield 35, 3), (71, .aload_n 0, 1), (72, .bipush 64, 2), (74, .newarray .int, 2), (76, .putfield 38, 3), (79, .aload_n 0, 1), (80, .bipush 32, 2), (82, .newarray .int, 2), (84, .putfield 41, 3), (87, .aload_n 0, 1), (88, .iconst 4, 1), (89, .newarray .int, 2), (91, .putfield 44, 3), (94, .aload_n 0, 1), (95, .iconst 4, 1), (96, .newarray .int, 2), (98, .putfield 47, 3), (101, .aload_n 0, 1), (102, .sipush 256, 3), (105, .newarray .boolean, 2), (107, .putfield 50, 3), (110, .aload_n 0, 1), (111, .sipush 256, 3), (114, .newarray .boolean, 2), (116, .putfield 54, 3), (119, .aload_n 0, 1), (120, .sipush 256, 3), (123, .newarray .boolean, 2), (125, .putfield 57, 3), (128, .aload_n 0, 1), (129, .sipush 256, 3), (132, .newarray .int, 2), (134, .putfield 60, 3), (137, .aload_n 0, 1), (138, .sipush 1024, 3), (141, .newarray .int, 2), (143, .putfield 63, 3), (146, .aload_n 0, 1), (147, .aload_n 0, 1), (148, .iload_n 1, 1), (149, .bipush 8, 2), (151, .bipush 64, 2), (153, .invokevirtual 66, 3), (156, .putfield 70, 3), (159, .aload_n 0, 1), (160, .aload_n 0, 1), (161, .iload_n 2, 1), (162, .bipush 8, 2), (164, .bipush 64, 2), (166, .invokevirtual 66, 3), (169, .putfield 73, 3), (172, .aload_n 0, 1), (173, .aload_n 0, 1), (174, .iload_n 3, 1), (175, .bipush 8, 2), (177, .bipush 32, 2), (179, .invokevirtual 66, 3), (182, .putfield 76, 3), (185, .aload_n 0, 1), (186, .iconst 0, 1), (187, .putfield 79, 3), (190, .aload_n 0, 1), (191, .iconst 0, 1), (192, .putfield 82, 3), (195, .iconst 0, 1), (196, .istore 4, 2), (198, .iload 4, 2), (200, .iconst 4, 1), (201, .if_icmp .ge 15, 3), (204, .aload_n 0, 1), (205, .iload 4, 2), (207, .invokevirtual 85, 3), (210, .iinc 4 1, 3), (213, .goto (-15), 3), (216, .return_, 1)], 5, 2, 30)
def cm2 : Me := ("insert", "(II)I", 2, 1, [(0, .aload_n 0, 1), (1, .iload_n 1, 1), (2, .iload_n 2, 1), (3, .invokevirtual 89, 3), (6, .ifCond .ne 5, 3), (9, .iconst (-1), 1), (10, .ireturn, 1), (11, .aload_n 0, 1), (12, .iconst 0, 1), (13, .iload_n 1, 1), (14, .iload_n 2, 1), (15, .invokevirtual 93, 3), (18, .istore_n 3, 1), (19, .aload_n 0, 1), (20, .iload_n 1, 1), (21, .iload_n 3, 1), (22, .invokevirtual 96, 3), (25, .iload_n 3, 1), (26, .ireturn, 1)], 4, 5, 81)
def cm3 : Me := ("erase", "(II)I", 2, 1, [(0, .aload_n 0, 1), (1, .iload_n 1, 1), (2, .iload_n 2, 1), (3, .invokevirtual 100, 3), (6, .ifCond .ne 5, 3), (9, .iconst (-1), 1), (10, .ireturn, 1), (11, .aload_n 0, 1), (12, .iload_n 1, 1), (13, .iload_n 2, 1), (14, .invokevirtual 103, 3), (17, .istore_n 3, 1), (18, .iload_n 3, 1), (19, .ifCond .ge 5, 3), (22, .iconst (-1), 1), (23, .ireturn, 1), (24, .aload_n 0, 1), (25, .iconst 1, 1), (26, .iload_n 1, 1), (27, .iload_n 3, 1), (28, .invokevirtual 93, 3), (31, .istore 4, 2), (33, .aload_n 0, 1), (34, .iload_n 1, 1), (35, .iload 4, 2), (37, .invokevirtual 96, 3), (40, .iload 4, 2), (42, .ireturn, 1)], 5, 5, 81)
def cm4 : Me := ("mark", "(IIII)I", 4, 1, [(0, .aload_n 0, 1), (1, .iload_n 1, 1), (2, .iload_n 2, 1), (3, .iload_n 3, 1), (4, .iload 4, 2), (6, .invokevirtual 107, 3), (9, .ifCond .ne 5, 3), (12, .iconst (-1), 1), (13, .ireturn, 1), (14, .iload_n 2, 1), (15, .iconst 4, 1), (16, .irem, 1), (17, .istore 5, 2), (19, .iload_n 2, 1), (20, .iconst 4, 1), (21, .idiv, 1), (22, .istore 6, 2), (24, .aload_n 0, 1), (25, .iload_n 1, 1), (26, .iload_n 3, 1), (27, .invokevirtual 103, 3), (30, .istore 7, 2), (32, .aload_n 0, 1), (33, .iload_n 1, 1), (34, .iload 4, 2), (36, .invokevirtual 103, 3), (39, .istore 8, 2), (41, .iload 7, 2), (43, .ifCond .lt 8, 3), (46, .iload 8, 2), (48, .ifCond .ge 5, 3), (51, .iconst (-1), 1), (52, .ireturn, 1), (53, .iconst 2, 1), (54, .istore 9, 2), (56, .iload 6, 2), (58, .ifCond .ne 6, 3), (61, .iconst 3, 1), (62, .istore 9, 2), (64, .aload_n 0, 1), (65, .iload_n 1, 1), (66, .iload 5, 2), (68, .iload 8, 2), (70, .invokevirtual 111, 3), (73, .istore 10, 2), (75, .aload_n 0, 1), (76, .iload 9, 2), (78, .iload_n 1, 1), (79, .iconst 0, 1), (80, .invokevirtual 93, 3), (83, .istore 11, 2), (85, .aload_n 0, 1), (86, .iload 11, 2), (88, .iload 5, 2), (90, .iconst 3, 1), (91, .iload 7, 2), (93, .imul, 1), (94, .iload 10, 2), (96, .invokevirtual 114, 3), (99, .aload_n 0, 1), (100, .getfield 35, 3), (103, .iload 11, 2), (105, .iload 6, 2), (107, .iastore, 1), (108, .aload_n 0, 1), (109, .iload_n 1, 1), (110, .iload 11, 2), (112, .invokevirtual 96, 3), (115, .iload 11, 2), (117, .ireturn, 1)], 12, 5, 81)
def cm5 : Me := ("deliver", "(II)Z", 2, 2, [(0, .aload_n 0, 1), (1, .iload_n 1, 1), (2, .invokevirtual 118, 3), (5, .ifCond .ne 5, 3), (8, .iconst 0, 1), (9, .ireturn, 1), (10, .aload_n 0, 1), (11, .iload_n 2, 1), (12, .invokevirtual 122, 3), (15, .ifCond .ne 5, 3), (18, .iconst 0, 1), (19, .ireturn, 1), (20, .aload_n 0, 1), (21, .getfield 41, 3), (24, .iload_n 1, 1), (25, .iaload, 1), (26, .istore_n 3, 1), (27, .aload_n 0, 1), (28, .iload_n 1, 1), (29, .invokevirtual 125, 3), (32, .aload_n 0, 1), (33, .iload_n 2, 1), (34, .iload_n 3, 1), (35, .invokevirtual 128, 3), (38, .pop, 1), (39, .iconst 1, 1), (40, .ireturn, 1)], 4, 4, 67)
def cm6 : Me := ("duplicate", "(I)Z", 1, 2, [(0, .aload_n 0, 1), (1, .iload_n 1, 1), (2, .invokevirtual 118, 3), (5, .ifCond .ne 5, 3), (8, .iconst 0, 1), (9, .ireturn, 1), (10, .aload_n 0, 1), (11, .getfield 82, 3), (14, .aload_n 0, 1), (15, .getfield 76, 3), (18, .if_icmp .lt 5, 3), (21, .iconst 0, 1), (22, .ireturn, 1), (23, .aload_n 0, 1), (24, .aload_n 0, 1), (25, .getfield 41, 3), (28, .iload_n 1, 1), (29, .iaload, 1), (30, .invokevirtual 131, 3), (33, .iconst 1, 1), (34, .ireturn, 1)], 2, 1, 13)
def cm7 : Me := ("discard", "(I)Z", 1, 2, [(0, .aload_n 0, 1), (1, .iload_n 1, 1), (2, .invokevirtual 118, 3), (5, .ifCond .ne 5, 3), (8, .iconst 0, 1), (9, .ireturn, 1), (10, .aload_n 0, 1), (11, .iload_n 1, 1), (12, .invokevirtual 125, 3), (15, .iconst 1, 1), (16, .ireturn, 1)], 2, 2, 28)
def cm8 : Me := ("sync", "(II)I", 2, 1, [(0, .aload_n 0, 1), (1, .iload_n 1, 1), (2, .invokevirtual 122, 3), (5, .ifCond .ne 5, 3), (8, .iconst (-1), 1), (9, .ireturn, 1), (10, .aload_n 0, 1), (11, .iload_n 2, 1), (12, .invokevirtual 122, 3), (15, .ifCond .ne 5, 3), (18, .iconst (-1), 1), (19, .ireturn, 1), (20, .iload_n 1, 1), (21, .iload_n 2, 1), (22, .if_icmp .ne 5, 3), (25, .iconst (-1), 1), (26, .ireturn, 1), (27, .iconst 0, 1), (28, .istore_n 3, 1), (29, .iconst 0, 1), (30, .istore 4, 2), (32, .iload 4, 2), (34, .aload_n 0, 1), (35, .getfield 79, 3), (38, .if_icmp .ge 40, 3), (41, .aload_n 0, 1), (42, .getfield 50, 3), (45, .aload_n 0, 1), (46, .iload_n 1, 1), (47, .iload 4, 2), (49, .invokevirtual 134, 3), (52, .baload, 1), (53, .ifCond .ne 6, 3), (56, .goto 16, 3), (59, .aload_n 0, 1), (60, .iload_n 2, 1), (61, .iload 4, 2), (63, .invokevirtual 128, 3), (66, .ifCond .eq 6, 3), (69, .iinc 3 1, 3), (72, .iinc 4 1, 3), (75, .goto (-43), 3), (78, .iload_n 3, 1), (79, .ireturn, 1)], 5, 4, 67)
def cm11 : Me := ("visibleCount", "(I)I", 1, 1, [(0, .aload_n 0, 1), (1, .iload_n 1, 1), (2, .invokevirtual 122, 3), (5, .ifCond .ne 5, 3), (8, .iconst (-1), 1), (9, .ireturn, 1), (10, .aload_n 0, 1), (11, .getfield 47, 3), (14, .iload_n 1, 1), (15, .iaload, 1), (16, .ireturn, 1)], 2, 1, 13)
def cm12 : Me := ("opCount", "()I", 0, 1, [(0, .aload_n 0, 1), (1, .getfield 79, 3), (4, .ireturn, 1)], 1, 0, 0)
def cm13 : Me := ("opField", "(II)I", 2, 1, [(0, .aload_n 0, 1), (1, .iload_n 1, 1), (2, .invokevirtual 146, 3), (5, .ifCond .ne 5, 3), (8, .iconst (-1), 1), (9, .ireturn, 1), (10, .iload_n 2, 1), (11, .ifCond .lt 9, 3), (14, .iload_n 2, 1), (15, .bipush 7, 2), (17, .if_icmp .le 5, 3), (20, .iconst (-1), 1), (21, .ireturn, 1), (22, .iload_n 2, 1), (23, .iconst 3, 1), (24, .if_icmp .gt 10, 3), (27, .aload_n 0, 1), (28, .iload_n 1, 1), (29, .iload_n 2, 1), (30, .invokevirtual 149, 3), (33, .ireturn, 1), (34, .aload_n 0, 1), (35, .iload_n 1, 1), (36, .iload_n 2, 1), (37, .invokevirtual 152, 3), (40, .ireturn, 1)], 3, 1, 14)
def cm14 : Me := ("poolSize", "()I", 0, 1, [(0, .aload_n 0, 1), (1, .getfield 82, 3), (4, .ireturn, 1)], 1, 0, 0)
def cm15 : Me := ("poolOp", "(I)I", 1, 1, [(0, .aload_n 0, 1), (1, .iload_n 1, 1), (2, .invokevirtual 118, 3), (5, .ifCond .ne 5, 3), (8, .iconst (-1), 1), (9, .ireturn, 1), (10, .aload_n 0, 1), (11, .getfield 41, 3), (14, .iload_n 1, 1), (15, .iaload, 1), (16, .ireturn, 1)], 2, 1, 13)
def cm16 : Me := ("clock", "(I)I", 1, 1, [(0, .aload_n 0, 1), (1, .iload_n 1, 1), (2, .invokevirtual 122, 3), (5, .ifCond .ne 5, 3), (8, .iconst (-1), 1), (9, .ireturn, 1), (10, .aload_n 0, 1), (11, .getfield 44, 3), (14, .iload_n 1, 1), (15, .iaload, 1), (16, .ireturn, 1)], 2, 1, 13)
def cm17 : Me := ("hasApplied", "(II)Z", 2, 2, [(0, .aload_n 0, 1), (1, .iload_n 1, 1), (2, .invokevirtual 122, 3), (5, .ifCond .ne 5, 3), (8, .iconst 0, 1), (9, .ireturn, 1), (10, .aload_n 0, 1), (11, .iload_n 2, 1), (12, .invokevirtual 146, 3), (15, .ifCond .ne 5, 3), (18, .iconst 0, 1), (19, .ireturn, 1), (20, .aload_n 0, 1), (21, .getfield 50, 3), (24, .aload_n 0, 1), (25, .iload_n 1, 1), (26, .iload_n 2, 1), (27, .invokevirtual 134, 3), (30, .baload, 1), (31, .ireturn, 1)], 3, 1, 15)
def cm18 : Me := ("insertAllowed", "(II)Z", 2, 2, [(0, .aload_n 0, 1), (1, .iload_n 1, 1), (2, .invokevirtual 122, 3), (5, .ifCond .ne 5, 3), (8, .iconst 0, 1), (9, .ireturn, 1), (10, .aload_n 0, 1), (11, .iload_n 2, 1), (12, .invokevirtual 137, 3), (15, .ifCond .ne 5, 3), (18, .iconst 0, 1), (19, .ireturn, 1), (20, .aload_n 0, 1), (21, .iload_n 1, 1), (22, .iload_n 2, 1), (23, .invokevirtual 143, 3), (26, .ifCond .eq 5, 3), (29, .iconst 0, 1), (30, .ireturn, 1), (31, .aload_n 0, 1), (32, .invokevirtual 155, 3), (35, .ireturn, 1)], 3, 2, 29)
def cm19 : Me := ("eraseAllowed", "(II)Z", 2, 2, [(0, .aload_n 0, 1), (1, .iload_n 1, 1), (2, .invokevirtual 122, 3), (5, .ifCond .ne 5, 3), (8, .iconst 0, 1), (9, .ireturn, 1), (10, .iload_n 2, 1), (11, .ifCond .lt 13, 3), (14, .iload_n 2, 1), (15, .aload_n 0, 1), (16, .getfield 47, 3), (19, .iload_n 1, 1), (20, .iaload, 1), (21, .if_icmp .lt 5, 3), (24, .iconst 0, 1), (25, .ireturn, 1), (26, .aload_n 0, 1), (27, .invokevirtual 155, 3), (30, .ireturn, 1)], 3, 1, 13)
def cm20 : Me := ("markAllowed", "(IIII)Z", 4, 2, [(0, .aload_n 0, 1), (1, .iload_n 1, 1), (2, .invokevirtual 122, 3), (5, .ifCond .ne 5, 3), (8, .iconst 0, 1), (9, .ireturn, 1), (10, .iload_n 2, 1), (11, .ifCond .lt 10, 3), (14, .iload_n 2, 1), (15, .sipush 1023, 3), (18, .if_icmp .le 5, 3), (21, .iconst 0, 1), (22, .ireturn, 1), (23, .iload_n 2, 1), (24, .iconst 4, 1), (25, .irem, 1), (26, .iconst 2, 1), (27, .if_icmp .eq 12, 3), (30, .iload_n 2, 1), (31, .iconst 4, 1), (32, .idiv, 1), (33, .iconst 1, 1), (34, .if_icmp .le 5, 3), (37, .iconst 0, 1), (38, .ireturn, 1), (39, .iload_n 3, 1), (40, .ifCond .lt 9, 3), (43, .iload_n 3, 1), (44, .iload 4, 2), (46, .if_icmp .le 5, 3), (49, .iconst 0, 1), (50, .ireturn, 1), (51, .iload 4, 2), (53, .aload_n 0, 1), (54, .getfield 47, 3), (57, .iload_n 1, 1), (58, .iaload, 1), (59, .if_icmp .lt 5, 3), (62, .iconst 0, 1), (63, .ireturn, 1), (64, .aload_n 0, 1), (65, .invokevirtual 155, 3), (68, .ireturn, 1)], 5, 1, 13)
def cm21 : Me := ("hasRoom", "()Z", 0, 2, [(0, .aload_n 0, 1), (1, .getfield 79, 3), (4, .aload_n 0, 1), (5, .getfield 73, 3), (8, .if_icmp .lt 5, 3), (11, .iconst 0, 1), (12, .ireturn, 1), (13, .aload_n 0, 1), (14, .getfield 82, 3), (17, .aload_n 0, 1), (18, .getfield 76, 3), (21, .if_icmp .ge 7, 3), (24, .iconst 1, 1), (25, .goto 4, 3), (28, .iconst 0, 1), (29, .ireturn, 1)], 1, 0, 0)
def cm22 : Me := ("validReplica", "(I)Z", 1, 2, [(0, .iload_n 1, 1), (1, .ifCond .lt 12, 3), (4, .iload_n 1, 1), (5, .iconst 4, 1), (6, .if_icmp .ge 7, 3), (9, .iconst 1, 1), (10, .goto 4, 3), (13, .iconst 0, 1), (14, .ireturn, 1)], 2, 0, 0)
def cm23 : Me := ("validSlot", "(I)Z", 1, 2, [(0, .iload_n 1, 1), (1, .ifCond .lt 15, 3), (4, .iload_n 1, 1), (5, .aload_n 0, 1), (6, .getfield 70, 3), (9, .if_icmp .ge 7, 3), (12, .iconst 1, 1), (13, .goto 4, 3), (16, .iconst 0, 1), (17, .ireturn, 1)], 2, 0, 0)
def cm24 : Me := ("validOp", "(I)Z", 1, 2, [(0, .iload_n 1, 1), (1, .ifCond .lt 15, 3), (4, .iload_n 1, 1), (5, .aload_n 0, 1), (6, .getfield 79, 3), (9, .if_icmp .ge 7, 3), (12, .iconst 1, 1), (13, .goto 4, 3), (16, .iconst 0, 1), (17, .ireturn, 1)], 2, 0, 0)
def cm25 : Me := ("validEntry", "(I)Z", 1, 2, [(0, .iload_n 1, 1), (1, .ifCond .lt 15, 3), (4, .iload_n 1, 1), (5, .aload_n 0, 1), (6, .getfield 82, 3), (9, .if_icmp .ge 7, 3), (12, .iconst 1, 1), (13, .goto 4, 3), (16, .iconst 0, 1), (17, .ireturn, 1)], 2, 0, 0)
def cm26 : Me := ("createOp", "(III)I", 3, 1, [(0, .aload_n 0, 1), (1, .getfield 79, 3), (4, .istore 4, 2), (6, .aload_n 0, 1), (7, .getfield 44, 3), (10, .iload_n 2, 1), (11, .iaload, 1), (12, .iconst 1, 1), (13, .iadd, 1), (14, .istore 5, 2), (16, .aload_n 0, 1), (17, .getfield 44, 3), (20, .iload_n 2, 1), (21, .iload 5, 2), (23, .iastore, 1), (24, .aload_n 0, 1), (25, .getfield 16, 3), (28, .iload 4, 2), (30, .iload_n 1, 1), (31, .iastore, 1), (32, .aload_n 0, 1), (33, .getfield 20, 3), (36, .iload 4, 2), (38, .iload_n 2, 1), (39, .iastore, 1), (40, .aload_n 0, 1), (41, .getfield 23, 3), (44, .iload 4, 2), (46, .iload 5, 2), (48, .iastore, 1), (49, .aload_n 0, 1), (50, .getfield 38, 3), (53, .iload 4, 2), (55, .iload_n 3, 1), (56, .iastore, 1), (57, .aload_n 0, 1), (58, .iload 4, 2), (60, .iconst 0, 1), (61, .iconst 0, 1), (62, .iconst 0, 1), (63, .invokevirtual 114, 3), (66, .aload_n 0, 1), (67, .getfield 35, 3), (70, .iload 4, 2), (72, .iconst 0, 1), (73, .iastore, 1), (74, .aload_n 0, 1), (75, .iload 4, 2), (77, .iconst 1, 1), (78, .iadd, 1), (79, .putfield 79, 3), (82, .iload 4, 2), (84, .ireturn, 1)], 6, 1, 16)
def cm27 : Me := ("setMarkFields", "(IIII)V", 4, 0, [(0, .aload_n 0, 1), (1, .getfield 26, 3), (4, .iload_n 1, 1), (5, .iload_n 2, 1), (6, .iastore, 1), (7, .aload_n 0, 1), (8, .getfield 29, 3), (11, .iload_n 1, 1), (12, .iload_n 3, 1), (13, .iastore, 1), (14, .aload_n 0, 1), (15, .getfield 32, 3), (18, .iload_n 1, 1), (19, .iload 4, 2), (21, .iastore, 1), (22, .return_, 1)], 5, 0, 0)
def cm28 : Me := ("publish", "(II)V", 2, 0, [(0, .aload_n 0, 1), (1, .iload_n 1, 1), (2, .iload_n 2, 1), (3, .invokevirtual 128, 3), (6, .pop, 1), (7, .aload_n 0, 1), (8, .iload_n 2, 1), (9, .invokevirtual 131, 3), (12, .return_, 1)], 3, 4, 67)
def cm29 : Me := ("headerField", "(II)I", 2, 1, [(0, .iload_n 2, 1), (1, .ifCond .ne 10, 3), (4, .aload_n 0, 1), (5, .getfield 16, 3), (8, .iload_n 1, 1), (9, .iaload, 1), (10, .ireturn, 1), (11, .iload_n 2, 1), (12, .iconst 1, 1), (13, .if_icmp .ne 10, 3), (16, .aload_n 0, 1), (17, .getfield 20, 3), (20, .iload_n 1, 1), (21, .iaload, 1), (22, .ireturn, 1), (23, .iload_n 2, 1), (24, .iconst 2, 1), (25, .if_icmp .ne 10, 3), (28, .aload_n 0, 1), (29, .getfield 23, 3), (32, .iload_n 1, 1), (33, .iaload, 1), (34, .ireturn, 1), (35, .aload_n 0, 1), (36, .getfield 26, 3), (39, .iload_n 1, 1), (40, .iaload, 1), (41, .ireturn, 1)], 3, 0, 0)
def cm31 : Me := ("greater", "(II)Z", 2, 2, [(0, .aload_n 0, 1), (1, .getfield 23, 3), (4, .iload_n 1, 1), (5, .iaload, 1), (6, .aload_n 0, 1), (7, .getfield 23, 3), (10, .iload_n 2, 1), (11, .iaload, 1), (12, .if_icmp .eq 24, 3), (15, .aload_n 0, 1), (16, .getfield 23, 3), (19, .iload_n 1, 1), (20, .iaload, 1), (21, .aload_n 0, 1), (22, .getfield 23, 3), (25, .iload_n 2, 1), (26, .iaload, 1), (27, .if_icmp .le 7, 3), (30, .iconst 1, 1), (31, .goto 4, 3), (34, .iconst 0, 1), (35, .ireturn, 1), (36, .aload_n 0, 1), (37, .getfield 20, 3), (40, .iload_n 1, 1), (41, .iaload, 1), (42, .aload_n 0, 1), (43, .getfield 20, 3), (46, .iload_n 2, 1), (47, .iaload, 1), (48, .if_icmp .le 7, 3), (51, .iconst 1, 1), (52, .goto 4, 3), (55, .iconst 0, 1), (56, .ireturn, 1)], 3, 0, 0)
def cm32 : Me := ("appendEntry", "(I)V", 1, 0, [(0, .aload_n 0, 1), (1, .getfield 82, 3), (4, .aload_n 0, 1), (5, .getfield 76, 3), (8, .if_icmp .lt 4, 3), (11, .return_, 1), (12, .aload_n 0, 1), (13, .getfield 41, 3), (16, .aload_n 0, 1), (17, .getfield 82, 3), (20, .iload_n 1, 1), (21, .iastore, 1), (22, .aload_n 0, 1), (23, .dup, 1), (24, .getfield 82, 3), (27, .iconst 1, 1), (28, .iadd, 1), (29, .putfield 82, 3), (32, .return_, 1)], 2, 0, 0)
def cm33 : Me := ("removeEntry", "(I)V", 1, 0, [(0, .aload_n 0, 1), (1, .iload_n 1, 1), (2, .invokevirtual 118, 3), (5, .ifCond .ne 4, 3), (8, .return_, 1), (9, .aload_n 0, 1), (10, .getfield 82, 3), (13, .iconst 1, 1), (14, .isub, 1), (15, .istore_n 2, 1), (16, .iload_n 1, 1), (17, .istore_n 3, 1), (18, .iload_n 3, 1), (19, .iload_n 2, 1), (20, .if_icmp .ge 23, 3), (23, .aload_n 0, 1), (24, .getfield 41, 3), (27, .iload_n 3, 1), (28, .aload_n 0, 1), (29, .getfield 41, 3), (32, .iload_n 3, 1), (33, .iconst 1, 1), (34, .iadd, 1), (35, .iaload, 1), (36, .iastore, 1), (37, .iinc 3 1, 3), (40, .goto (-22), 3), (43, .aload_n 0, 1), (44, .getfield 41, 3), (47, .iload_n 2, 1), (48, .iconst 0, 1), (49, .iastore, 1), (50, .aload_n 0, 1), (51, .iload_n 2, 1), (52, .putfield 82, 3), (55, .return_, 1)], 4, 1, 13)
def cm34 : Me := ("applyOp", "(II)Z", 2, 2, [(0, .aload_n 0, 1), (1, .iload_n 1, 1), (2, .invokevirtual 122, 3), (5, .ifCond .eq 11, 3), (8, .aload_n 0, 1), (9, .iload_n 2, 1), (10, .invokevirtual 146, 3), (13, .ifCond .ne 5, 3), (16, .iconst 0, 1), (17, .ireturn, 1), (18, .aload_n 0, 1), (19, .iload_n 1, 1), (20, .iload_n 2, 1), (21, .invokevirtual 134, 3), (24, .istore_n 3, 1), (25, .aload_n 0, 1), (26, .getfield 50, 3), (29, .iload_n 3, 1), (30, .baload, 1), (31, .ifCond .eq 5, 3), (34, .iconst 0, 1), (35, .ireturn, 1), (36, .aload_n 0, 1), (37, .getfield 50, 3), (40, .iload_n 3, 1), (41, .iconst 1, 1), (42, .bastore, 1), (43, .aload_n 0, 1), (44, .getfield 23, 3), (47, .iload_n 2, 1), (48, .iaload, 1), (49, .aload_n 0, 1), (50, .getfield 44, 3), (53, .iload_n 1, 1), (54, .iaload, 1), (55, .if_icmp .le 15, 3), (58, .aload_n 0, 1), (59, .getfield 44, 3), (62, .iload_n 1, 1), (63, .aload_n 0, 1), (64, .getfield 23, 3), (67, .iload_n 2, 1), (68, .iaload, 1), (69, .iastore, 1), (70, .aload_n 0, 1), (71, .getfield 16, 3), (74, .iload_n 2, 1), (75, .iaload, 1), (76, .istore 4, 2), (78, .iload 4, 2), (80, .ifCond .eq 9, 3), (83, .iload 4, 2), (85, .iconst 1, 1), (86, .if_icmp .ne 12, 3), (89, .aload_n 0, 1), (90, .iload_n 1, 1), (91, .iload_n 2, 1), (92, .invokevirtual 159, 3), (95, .goto 9, 3), (98, .aload_n 0, 1), (99, .iload_n 1, 1), (100, .iload_n 2, 1), (101, .invokevirtual 162, 3), (104, .iconst 1, 1), (105, .ireturn, 1)], 5, 3, 51)
def cm35 : Me := ("applyCharOp", "(II)V", 2, 0, [(0, .aload_n 0, 1), (1, .getfield 38, 3), (4, .iload_n 2, 1), (5, .iaload, 1), (6, .istore_n 3, 1), (7, .aload_n 0, 1), (8, .iload_n 3, 1), (9, .invokevirtual 137, 3), (12, .ifCond .ne 4, 3), (15, .return_, 1), (16, .aload_n 0, 1), (17, .iload_n 1, 1), (18, .iload_n 3, 1), (19, .invokevirtual 143, 3), (22, .istore 4, 2), (24, .aload_n 0, 1), (25, .getfield 16, 3), (28, .iload_n 2, 1), (29, .iaload, 1), (30, .ifCond .ne 18, 3), (33, .aload_n 0, 1), (34, .getfield 54, 3), (37, .aload_n 0, 1), (38, .iload_n 1, 1), (39, .iload_n 3, 1), (40, .invokevirtual 165, 3), (43, .iconst 1, 1), (44, .bastore, 1), (45, .goto 15, 3), (48, .aload_n 0, 1), (49, .getfield 57, 3), (52, .aload_n 0, 1), (53, .iload_n 1, 1), (54, .iload_n 3, 1), (55, .invokevirtual 165, 3), (58, .iconst 1, 1), (59, .bastore, 1), (60, .aload_n 0, 1), (61, .iload_n 1, 1), (62, .iload_n 3, 1), (63, .invokevirtual 143, 3), (66, .istore 5, 2), (68, .iload 4, 2), (70, .iconst 1, 1), (71, .if_icmp .eq 15, 3), (74, .iload 5, 2), (76, .iconst 1, 1), (77, .if_icmp .ne 9, 3), (80, .aload_n 0, 1), (81, .iload_n 1, 1), (82, .iload_n 3, 1), (83, .invokevirtual 168, 3), (86, .iload 4, 2), (88, .iconst 1, 1), (89, .if_icmp .ne 15, 3), (92, .iload 5, 2), (94, .iconst 1, 1), (95, .if_icmp .eq 9, 3), (98, .aload_n 0, 1), (99, .iload_n 1, 1), (100, .iload_n 3, 1), (101, .invokevirtual 171, 3), (104, .return_, 1)], 6, 2, 34)
def cm36 : Me := ("applyMarkOp", "(II)V", 2, 0, [(0, .aload_n 0, 1), (1, .getfield 29, 3), (4, .iload_n 2, 1), (5, .iaload, 1), (6, .iconst 3, 1), (7, .idiv, 1), (8, .istore_n 3, 1), (9, .iload_n 3, 1), (10, .ifCond .ge 5, 3), (13, .iconst 0, 1), (14, .istore_n 3, 1), (15, .iload_n 3, 1), (16, .istore 4, 2), (18, .iload 4, 2), (20, .aload_n 0, 1), (21, .getfield 70, 3), (24, .if_icmp .ge 50, 3), (27, .iconst 3, 1), (28, .iload 4, 2), (30, .imul, 1), (31, .iconst 1, 1), (32, .iadd, 1), (33, .istore 5, 2), (35, .iload 5, 2), (37, .aload_n 0, 1), (38, .getfield 32, 3), (41, .iload_n 2, 1), (42, .iaload, 1), (43, .if_icmp .lt 6, 3), (46, .goto 28, 3), (49, .iload 5, 2), (51, .aload_n 0, 1), (52, .getfield 29, 3), (55, .iload_n 2, 1), (56, .iaload, 1), (57, .if_icmp .le 11, 3), (60, .aload_n 0, 1), (61, .iload_n 1, 1), (62, .iload 4, 2), (64, .iload_n 2, 1), (65, .invokevirtual 174, 3), (68, .iinc 4 1, 3), (71, .goto (-53), 3), (74, .return_, 1)], 6, 2, 33)
def cm37 : Me := ("offerWinner", "(III)V", 3, 0, [(0, .aload_n 0, 1), (1, .getfield 26, 3), (4, .iload_n 3, 1), (5, .iaload, 1), (6, .istore 4, 2), (8, .iload 4, 2), (10, .ifCond .lt 9, 3), (13, .iload 4, 2), (15, .iconst 4, 1), (16, .if_icmp .lt 4, 3), (19, .return_, 1), (20, .aload_n 0, 1), (21, .iload_n 1, 1), (22, .iload_n 2, 1), (23, .iload 4, 2), (25, .invokevirtual 178, 3), (28, .istore 5, 2), (30, .aload_n 0, 1), (31, .getfield 63, 3), (34, .iload 5, 2), (36, .iaload, 1), (37, .iconst 1, 1), (38, .isub, 1), (39, .istore 6, 2), (41, .iload 6, 2), (43, .ifCond .lt 13, 3), (46, .aload_n 0, 1), (47, .iload_n 3, 1), (48, .iload 6, 2), (50, .invokevirtual 181, 3), (53, .ifCond .eq 13, 3), (56, .aload_n 0, 1), (57, .getfield 63, 3), (60, .iload 5, 2), (62, .iload_n 3, 1), (63, .iconst 1, 1), (64, .iadd, 1), (65, .iastore, 1), (66, .return_, 1)], 7, 1, 15)
def cm38 : Me := ("stateOf", "(II)I", 2, 1, [(0, .aload_n 0, 1), (1, .iload_n 1, 1), (2, .iload_n 2, 1), (3, .invokevirtual 165, 3), (6, .istore_n 3, 1), (7, .aload_n 0, 1), (8, .getfield 57, 3), (11, .iload_n 3, 1), (12, .baload, 1), (13, .ifCond .eq 5, 3), (16, .iconst 2, 1), (17, .ireturn, 1), (18, .iload_n 2, 1), (19, .iconst 2, 1), (20, .irem, 1), (21, .ifCond .eq 12, 3), (24, .aload_n 0, 1), (25, .getfield 54, 3), (28, .iload_n 3, 1), (29, .baload, 1), (30, .ifCond .eq 5, 3), (33, .iconst 1, 1), (34, .ireturn, 1), (35, .iconst 0, 1), (36, .ireturn, 1)], 4, 1, 14)
def cm39 : Me := ("resetReplica", "(I)V", 1, 0, [(0, .aload_n 0, 1), (1, .getfield 44, 3), (4, .iload_n 1, 1), (5, .iconst 0, 1), (6, .iastore, 1), (7, .iconst 0, 1), (8, .istore_n 2, 1), (9, .iconst 0, 1), (10, .istore_n 3, 1), (11, .iload_n 3, 1), (12, .aload_n 0, 1), (13, .getfield 70, 3), (16, .if_icmp .ge 24, 3), (19, .aload_n 0, 1), (20, .getfield 60, 3), (23, .aload_n 0, 1), (24, .iload_n 1, 1), (25, .iload_n 2, 1), (26, .invokevirtual 184, 3), (29, .iload_n 3, 1), (30, .iastore, 1), (31, .iinc 2 1, 3), (34, .iinc 3 2, 3), (37, .goto (-26), 3), (40, .aload_n 0, 1), (41, .getfield 47, 3), (44, .iload_n 1, 1), (45, .iload_n 2, 1), (46, .iastore, 1), (47, .return_, 1)], 4, 1, 15)
def cm40 : Me := ("slotAtPosition", "(II)I", 2, 1, [(0, .iload_n 2, 1), (1, .ifCond .lt 13, 3), (4, .iload_n 2, 1), (5, .aload_n 0, 1), (6, .getfield 47, 3), (9, .iload_n 1, 1), (10, .iaload, 1), (11, .if_icmp .lt 5, 3), (14, .iconst (-1), 1), (15, .ireturn, 1), (16, .aload_n 0, 1), (17, .getfield 60, 3), (20, .aload_n 0, 1), (21, .iload_n 1, 1), (22, .iload_n 2, 1), (23, .invokevirtual 184, 3), (26, .iaload, 1), (27, .ireturn, 1)], 3, 1, 15)
def cm41 : Me := ("nextVisibleAfter", "(II)I", 2, 1, [(0, .aload_n 0, 1), (1, .getfield 47, 3), (4, .iload_n 1, 1), (5, .iaload, 1), (6, .istore_n 3, 1), (7, .iconst 0, 1), (8, .istore 4, 2), (10, .iload 4, 2), (12, .iload_n 3, 1), (13, .if_icmp .ge 32, 3), (16, .aload_n 0, 1), (17, .getfield 60, 3), (20, .aload_n 0, 1), (21, .iload_n 1, 1), (22, .iload 4, 2), (24, .invokevirtual 184, 3), (27, .iaload, 1), (28, .istore 5, 2), (30, .iload 5, 2), (32, .iload_n 2, 1), (33, .if_icmp .le 6, 3), (36, .iload 5, 2), (38, .ireturn, 1), (39, .iinc 4 1, 3), (42, .goto (-32), 3), (45, .iconst (-1), 1), (46, .ireturn, 1)], 6, 1, 15)
def cm42 : Me := ("addVisible", "(II)V", 2, 0, [(0, .aload_n 0, 1), (1, .getfield 47, 3), (4, .iload_n 1, 1), (5, .iaload, 1), (6, .istore_n 3, 1), (7, .iload_n 3, 1), (8, .aload_n 0, 1), (9, .getfield 70, 3), (12, .if_icmp .lt 4, 3), (15, .return_, 1), (16, .iload_n 3, 1), (17, .istore 4, 2), (19, .iconst 0, 1), (20, .istore 5, 2), (22, .iload 5, 2), (24, .iload_n 3, 1), (25, .if_icmp .ge 32, 3), (28, .aload_n 0, 1), (29, .getfield 60, 3), (32, .aload_n 0, 1), (33, .iload_n 1, 1), (34, .iload 5, 2), (36, .invokevirtual 184, 3), (39, .iaload, 1), (40, .iload_n 2, 1), (41, .if_icmp .le 10, 3), (44, .iload 5, 2), (46, .istore 4, 2), (48, .goto 9, 3), (51, .iinc 5 1, 3), (54, .goto (-32), 3), (57, .iload_n 3, 1), (58, .istore 5, 2), (60, .iload 5, 2), (62, .iload 4, 2), (64, .if_icmp .le 35, 3), (67, .aload_n 0, 1), (68, .getfield 60, 3), (71, .aload_n 0, 1), (72, .iload_n 1, 1), (73, .iload 5, 2), (75, .invokevirtual 184, 3), (78, .aload_n 0, 1), (79, .getfield 60, 3), (82, .aload_n 0, 1), (83, .iload_n 1, 1), (84, .iload 5, 2), (86, .iconst 1, 1), (87, .isub, 1), (88, .invokevirtual 184, 3), (91, .iaload, 1), (92, .iastore, 1), (93, .iinc 5 (-1), 3), (96, .goto (-36), 3), (99, .aload_n 0, 1), (100, .getfield 60, 3), (103, .aload_n 0, 1), (104, .iload_n 1, 1), (105, .iload 4, 2), (107, .invokevirtual 184, 3), (110, .iload_n 2, 1), (111, .iastore, 1), (112, .aload_n 0, 1), (113, .getfield 47, 3), (116, .iload_n 1, 1), (117, .iload_n 3, 1), (118, .iconst 1, 1), (119, .iadd, 1), (120, .iastore, 1), (121, .return_, 1)], 6, 1, 17)
def cm43 : Me := ("dropVisible", "(II)V", 2, 0, [(0, .aload_n 0, 1), (1, .getfield 47, 3), (4, .iload_n 1, 1), (5, .iaload, 1), (6, .istore_n 3, 1), (7, .iconst (-1), 1), (8, .istore 4, 2), (10, .iconst 0, 1), (11, .istore 5, 2), (13, .iload 5, 2), (15, .iload_n 3, 1), (16, .if_icmp .ge 32, 3), (19, .aload_n 0, 1), (20, .getfield 60, 3), (23, .aload_n 0, 1), (24, .iload_n 1, 1), (25, .iload 5, 2), (27, .invokevirtual 184, 3), (30, .iaload, 1), (31, .iload_n 2, 1), (32, .if_icmp .ne 10, 3), (35, .iload 5, 2), (37, .istore 4, 2), (39, .goto 9, 3), (42, .iinc 5 1, 3), (45, .goto (-32), 3), (48, .iload 4, 2), (50, .ifCond .ge 4, 3), (53, .return_, 1), (54, .iload 4, 2), (56, .istore 5, 2), (58, .iload 5, 2), (60, .iload_n 3, 1), (61, .iconst 1, 1), (62, .isub, 1), (63, .if_icmp .ge 35, 3), (66, .aload_n 0, 1), (67, .getfield 60, 3), (70, .aload_n 0, 1), (71, .iload_n 1, 1), (72, .iload 5, 2), (74, .invokevirtual 184, 3), (77, .aload_n 0, 1), (78, .getfield 60, 3), (81, .aload_n 0, 1), (82, .iload_n 1, 1), (83, .iload 5, 2), (85, .iconst 1, 1), (86, .iadd, 1), (87, .invokevirtual 184, 3), (90, .iaload, 1), (91, .iastore, 1), (92, .iinc 5 1, 3), (95, .goto (-37), 3), (98, .aload_n 0, 1), (99, .getfield 47, 3), (102, .iload_n 1, 1), (103, .iload_n 3, 1), (104, .iconst 1, 1), (105, .isub, 1), (106, .iastore, 1), (107, .return_, 1)], 6, 1, 17)
def cm44 : Me := ("markEnd", "(III)I", 3, 1, [(0, .iload_n 2, 1), (1, .ifCond .eq 8, 3), (4, .iload_n 2, 1), (5, .iconst 1, 1), (6, .if_icmp .ne 28, 3), (9, .aload_n 0, 1), (10, .iload_n 1, 1), (11, .iload_n 3, 1), (12, .invokevirtual 187, 3), (15, .istore 4, 2), (17, .iload 4, 2), (19, .ifCond .ge 10, 3), (22, .iconst 3, 1), (23, .aload_n 0, 1), (24, .getfield 70, 3), (27, .imul, 1), (28, .ireturn, 1), (29, .iconst 3, 1), (30, .iload 4, 2), (32, .imul, 1), (33, .ireturn, 1), (34, .iconst 3, 1), (35, .iload_n 3, 1), (36, .imul, 1), (37, .iconst 2, 1), (38, .iadd, 1), (39, .ireturn, 1)], 5, 2, 32)
def cm47 : Me := ("appIdx", "(II)I", 2, 1, [(0, .iload_n 1, 1), (1, .bipush 64, 2), (3, .imul, 1), (4, .iload_n 2, 1), (5, .iadd, 1), (6, .ireturn, 1)], 3, 0, 0)
def cm48 : Me := ("slotIdx", "(II)I", 2, 1, [(0, .iload_n 1, 1), (1, .bipush 64, 2), (3, .imul, 1), (4, .iload_n 2, 1), (5, .iadd, 1), (6, .ireturn, 1)], 3, 0, 0)
def cm49 : Me := ("listIdx", "(II)I", 2, 1, [(0, .iload_n 1, 1), (1, .bipush 64, 2), (3, .imul, 1), (4, .iload_n 2, 1), (5, .iadd, 1), (6, .ireturn, 1)], 3, 0, 0)
def cm50 : Me := ("winIdx", "(III)I", 3, 1, [(0, .iload_n 1, 1), (1, .bipush 64, 2), (3, .imul, 1), (4, .iload_n 2, 1), (5, .iadd, 1), (6, .iconst 4, 1), (7, .imul, 1), (8, .iload_n 3, 1), (9, .iadd, 1), (10, .ireturn, 1)], 4, 0, 0)
def cm51 : Me := ("clamp", "(III)I", 3, 1, [(0, .iload_n 1, 1), (1, .iload_n 2, 1), (2, .if_icmp .ge 5, 3), (5, .iload_n 2, 1), (6, .ireturn, 1), (7, .iload_n 1, 1), (8, .iload_n 3, 1), (9, .if_icmp .le 5, 3), (12, .iload_n 3, 1), (13, .ireturn, 1), (14, .iload_n 1, 1), (15, .ireturn, 1)], 4, 0, 0)
def PP : Cl := ("FormatMarks", [(26, ("stride", "I", 0, true)), (27, ("typeCount", "I", 0, true)), (28, ("slotCount", "I", 0, false)), (29, ("opCapacity", "I", 0, false)), (30, ("poolLimit", "I", 0, false)), (31, ("opTotal", "I", 0, false)), (32, ("opKind", "[I", 3, true)), (33, ("opReplica", "[I", 4, true)), (34, ("opCounter", "[I", 5, true)), (35, ("opType", "[I", 6, true)), (36, ("opStart", "[I", 7, true)), (37, ("opEnd", "[I", 8, true)), (38, ("opValue", "[I", 9, true)), (39, ("opSlot", "[I", 10, true)), (40, ("poolCount", "I", 0, false)), (41, ("pool", "[I", 11, true)), (42, ("clocks", "[I", 12, true)), (43, ("visibleSlots", "[I", 13, true)), (44, ("applied", "[Z", 14, true)), (45, ("insertedAt", "[Z", 15, true)), (46, ("erasedAt", "[Z", 16, true)), (47, ("visList", "[I", 17, true)), (48, ("winner", "[I", 18, true))], [(0, 64), (0, 64), (0, 64), (0, 64), (0, 64), (0, 64), (0, 64), (0, 64), (0, 32), (0, 4), (0, 4), (1, 256), (1, 256), (1, 256), (0, 256), (0, 1024)], [(7, 26), (13, 27), (16, 32), (20, 33), (23, 34), (26, 35), (29, 36), (32, 37), (35, 38), (38, 39), (41, 41), (44, 42), (47, 43), (50, 44), (54, 45), (57, 46), (60, 47), (63, 48), (70, 28), (73, 29), (76, 30), (79, 31), (82, 40)], [(66, 51), (85, 39), (89, 18), (93, 26), (96, 28), (100, 19), (103, 40), (107, 20), (111, 44), (114, 27), (118, 25), (122, 22), (125, 33), (128, 34), (131, 32), (134, 47), (137, 23), (143, 38), (146, 24), (149, 29), (155, 21), (159, 35), (162, 36), (165, 48), (168, 42), (171, 43), (174, 37), (178, 50), (181, 31), (184, 49), (187, 41)], [], [(0, cm0), (2, cm2), (3, cm3), (4, cm4), (5, cm5), (6, cm6), (7, cm7), (8, cm8), (11, cm11), (12, cm12), (13, cm13), (14, cm14), (15, cm15), (16, cm16), (17, cm17), (18, cm18), (19, cm19), (20, cm20), (21, cm21), (22, cm22), (23, cm23), (24, cm24), (25, cm25), (26, cm26), (27, cm27), (28, cm28), (29, cm29), (31, cm31), (32, cm32), (33, cm33), (34, cm34), (35, cm35), (36, cm36), (37, cm37), (38, cm38), (39, cm39), (40, cm40), (41, cm41), (42, cm42), (43, cm43), (44, cm44), (47, cm47), (48, cm48), (49, cm49), (50, cm50), (51, cm51)], 1)
def lm0 : Me := ("law", "([I)Z", 1, 2, [(0, .new 7, 3), (3, .dup, 1), (4, .bipush 16, 2), (6, .bipush 64, 2), (8, .bipush 32, 2), (10, .invokespecial 9, 3), (13, .astore_n 1, 1), (14, .lconst 0, 1), (15, .lstore_n 2, 1), (16, .lconst 0, 1), (17, .lstore 4, 2), (19, .lconst 0, 1), (20, .lstore 6, 2), (22, .lconst 0, 1), (23, .lstore 8, 2), (25, .iconst 0, 1), (26, .istore 10, 2), (28, .iconst 0, 1), (29, .istore 11, 2), (31, .iconst 0, 1), (32, .istore 12, 2), (34, .iload 12, 2), (36, .iconst 3, 1), (37, .iadd, 1), (38, .aload_n 0, 1), (39, .arraylength, 1), (40, .if_icmp .ge 752, 3), (43, .aload_n 0, 1), (44, .iload 12, 2), (46, .iaload, 1), (47, .bipush 7, 2), (49, .iand, 1), (50, .istore 13, 2), (52, .aload_n 0, 1), (53, .iload 12, 2), (55, .iconst 1, 1), (56, .iadd, 1), (57, .iaload, 1), (58, .iconst 3, 1), (59, .iand, 1), (60, .istore 14, 2), (62, .aload_n 0, 1), (63, .iload 12, 2), (65, .iconst 2, 1), (66, .iadd, 1), (67, .iaload, 1), (68, .istore 15, 2), (70, .aload_n 0, 1), (71, .iload 12, 2), (73, .iconst 3, 1), (74, .iadd, 1), (75, .iaload, 1), (76, .istore 16, 2), (78, .iload 15, 2), (80, .ldc 12, 2), (82, .iand, 1), (83, .iload 11, 2), (85, .iconst 1, 1), (86, .iadd, 1), (87, .irem, 1), (88, .istore 17, 2), (90, .iconst (-1), 1), (91, .istore 18, 2), (93, .lconst 0, 1), (94, .lstore 19, 2), (96, .iload 13, 2), (98, .iconst 2, 1), (99, .if_icmp .le 10, 3), (102, .iload 13, 2), (104, .bipush 7, 2), (106, .if_icmp .ne 254, 3), (109, .aload_n 1, 1), (110, .iload 14, 2), (112, .invokevirtual 13, 3), (115, .istore 21, 2), (117, .aload_n 1, 1), (118, .iload 14, 2), (120, .invokevirtual 17, 3), (123, .istore 22, 2), (125, .iconst 0, 1), (126, .istore 25, 2), (128, .iload 13, 2), (130, .ifCond .ne 25, 3), (133, .aload_n 1, 1), (134, .iload 14, 2), (136, .iload 15, 2), (138, .bipush 15, 2), (140, .iand, 1), (141, .invokevirtual 20, 3), (144, .istore 23, 2), (146, .iconst 0, 1), (147, .istore 24, 2), (149, .iconst 1, 1), (150, .istore 25, 2), (152, .goto 79, 3), (155, .iload 13, 2), (157, .iconst 1, 1), (158, .if_icmp .ne 25, 3), (161, .aload_n 1, 1), (162, .iload 14, 2), (164, .iload 15, 2), (166, .bipush 15, 2), (168, .iand, 1), (169, .invokevirtual 24, 3), (172, .istore 23, 2), (174, .iconst 1, 1), (175, .istore 24, 2), (177, .iconst (-1), 1), (178, .istore 25, 2), (180, .goto 51, 3), (183, .iload 16, 2), (185, .bipush 7, 2), (187, .iand, 1), (188, .istore 26, 2), (190, .aload_n 1, 1), (191, .iload 14, 2), (193, .iload 15, 2), (195, .bipush 15, 2), (197, .iand, 1), (198, .iload 26, 2), (200, .iload 26, 2), (202, .iload 16, 2), (204, .iconst 3, 1), (205, .iushr, 1), (206, .iconst 3, 1), (207, .iand, 1), (208, .iadd, 1), (209, .invokevirtual 27, 3), (212, .istore 23, 2), (214, .iload 15, 2), (216, .bipush 15, 2), (218, .iand, 1), (219, .iconst 2, 1), (220, .iushr, 1), (221, .ifCond .ne 7, 3), (224, .iconst 3, 1), (225, .goto 4, 3), (228, .iconst 2, 1), (229, .istore 24, 2), (231, .iload 23, 2), (233, .iconst (-1), 1), (234, .if_icmp .eq 99, 3), (237, .iload 23, 2), (239, .iload 10, 2), (241, .if_icmp .eq 5, 3), (244, .iconst 0, 1), (245, .ireturn, 1), (246, .iinc 10 1, 3), (249, .iinc 11 1, 3), (252, .iload 14, 2), (254, .istore 18, 2), (256, .lconst 1, 1), (257, .iload 23, 2), (259, .lshl, 1), (260, .lstore 19, 2), (262, .aload_n 1, 1), (263, .iload 23, 2), (265, .iconst 0, 1), (266, .invokevirtual 31, 3), (269, .iload 24, 2), (271, .if_icmp .ne 15, 3), (274, .aload_n 1, 1), (275, .iload 23, 2), (277, .iconst 1, 1), (278, .invokevirtual 31, 3), (281, .iload 14, 2), (283, .if_icmp .eq 5, 3), (286, .iconst 0, 1), (287, .ireturn, 1), (288, .aload_n 1, 1), (289, .iload 23, 2), (291, .iconst 2, 1), (292, .invokevirtual 31, 3), (295, .iload 22, 2), (297, .iconst 1, 1), (298, .iadd, 1), (299, .if_icmp .ne 17, 3), (302, .aload_n 1, 1), (303, .iload 14, 2), (305, .invokevirtual 13, 3), (308, .iload 21, 2), (310, .iload 25, 2), (312, .iadd, 1), (313, .if_icmp .eq 5, 3), (316, .iconst 0, 1), (317, .ireturn, 1), (318, .aload_n 1, 1), (319, .iload 11, 2), (321, .iconst 1, 1), (322, .isub, 1), (323, .invokevirtual 34, 3), (326, .iload 23, 2), (328, .if_icmp .eq 29, 3), (331, .iconst 0, 1), (332, .ireturn, 1), (333, .aload_n 1, 1), (334, .iload 14, 2), (336, .invokevirtual 13, 3), (339, .iload 21, 2), (341, .if_icmp .ne 14, 3), (344, .aload_n 1, 1), (345, .iload 14, 2), (347, .invokevirtual 17, 3), (350, .iload 22, 2), (352, .if_icmp .eq 5, 3), (355, .iconst 0, 1), (356, .ireturn, 1), (357, .goto 262, 3), (360, .iload 13, 2), (362, .iconst 3, 1), (363, .if_icmp .ne 75, 3), (366, .aload_n 1, 1), (367, .iload 17, 2), (369, .invokevirtual 34, 3), (372, .istore 21, 2), (374, .aload_n 1, 1), (375, .iload 17, 2), (377, .iload 14, 2), (379, .invokevirtual 37, 3), (382, .istore 22, 2), (384, .iload 22, 2), (386, .iload 17, 2), (388, .iload 11, 2), (390, .if_icmp .ge 7, 3), (393, .iconst 1, 1), (394, .goto 4, 3), (397, .iconst 0, 1), (398, .if_icmp .eq 5, 3), (401, .iconst 0, 1), (402, .ireturn, 1), (403, .iload 22, 2), (405, .ifCond .eq 30, 3), (408, .iload 21, 2), (410, .ifCond .lt 10, 3), (413, .iload 21, 2), (415, .iload 10, 2), (417, .if_icmp .lt 5, 3), (420, .iconst 0, 1), (421, .ireturn, 1), (422, .iinc 11 (-1), 3), (425, .iload 14, 2), (427, .istore 18, 2), (429, .lconst 1, 1), (430, .iload 21, 2), (432, .lshl, 1), (433, .lstore 19, 2), (435, .goto 184, 3), (438, .iload 13, 2), (440, .iconst 4, 1), (441, .if_icmp .ne 48, 3), (444, .aload_n 1, 1), (445, .iload 17, 2), (447, .invokevirtual 41, 3), (450, .istore 21, 2), (452, .iload 21, 2), (454, .iload 17, 2), (456, .iload 11, 2), (458, .if_icmp .ge 14, 3), (461, .iload 11, 2), (463, .bipush 32, 2), (465, .if_icmp .ge 7, 3), (468, .iconst 1, 1), (469, .goto 4, 3), (472, .iconst 0, 1), (473, .if_icmp .eq 5, 3), (476, .iconst 0, 1), (477, .ireturn, 1), (478, .iload 21, 2), (480, .ifCond .eq 6, 3), (483, .iinc 11 1, 3), (486, .goto 133, 3), (489, .iload 13, 2), (491, .iconst 5, 1), (492, .if_icmp .ne 41, 3), (495, .aload_n 1, 1), (496, .iload 17, 2), (498, .invokevirtual 45, 3), (501, .istore 21, 2), (503, .iload 21, 2), (505, .iload 17, 2), (507, .iload 11, 2), (509, .if_icmp .ge 7, 3), (512, .iconst 1, 1), (513, .goto 4, 3), (516, .iconst 0, 1), (517, .if_icmp .eq 5, 3), (520, .iconst 0, 1), (521, .ireturn, 1), (522, .iload 21, 2), (524, .ifCond .eq 6, 3), (527, .iinc 11 (-1), 3), (530, .goto 89, 3), (533, .iload 16, 2), (535, .iconst 3, 1), (536, .iand, 1), (537, .istore 21, 2), (539, .iload 14, 2), (541, .lload_n 2, 1), (542, .lload 4, 2), (544, .lload 6, 2), (546, .lload 8, 2), (548, .invokestatic 48, 3), (551, .lstore 22, 2), (553, .iload 21, 2), (555, .lload_n 2, 1), (556, .lload 4, 2), (558, .lload 6, 2), (560, .lload 8, 2), (562, .invokestatic 48, 3), (565, .lstore 24, 2), (567, .aload_n 1, 1), (568, .iload 14, 2), (570, .iload 21, 2), (572, .invokevirtual 54, 3), (575, .istore 26, 2), (577, .iload 14, 2), (579, .iload 21, 2), (581, .if_icmp .ne 11, 3), (584, .iload 26, 2), (586, .iconst (-1), 1), (587, .if_icmp .eq 32, 3), (590, .iconst 0, 1), (591, .ireturn, 1), (592, .iload 26, 2), (594, .lload 22, 2), (596, .lload 24, 2), (598, .ldc2_w 57, 3), (601, .lxor, 1), (602, .land, 1), (603, .invokestatic 59, 3), (606, .if_icmp .eq 5, 3), (609, .iconst 0, 1), (610, .ireturn, 1), (611, .iload 21, 2), (613, .istore 18, 2), (615, .lload 22, 2), (617, .lstore 19, 2), (619, .iload 18, 2), (621, .ifCond .ne 11, 3), (624, .lload_n 2, 1), (625, .lload 19, 2), (627, .lor, 1), (628, .lstore_n 2, 1), (629, .goto 48, 3), (632, .iload 18, 2), (634, .iconst 1, 1), (635, .if_icmp .ne 13, 3), (638, .lload 4, 2), (640, .lload 19, 2), (642, .lor, 1), (643, .lstore 4, 2), (645, .goto 32, 3), (648, .iload 18, 2), (650, .iconst 2, 1), (651, .if_icmp .ne 13, 3), (654, .lload 6, 2), (656, .lload 19, 2), (658, .lor, 1), (659, .lstore 6, 2), (661, .goto 16, 3), (664, .iload 18, 2), (666, .iconst 3, 1), (667, .if_icmp .ne 10, 3), (670, .lload 8, 2), (672, .lload 19, 2), (674, .lor, 1), (675, .lstore 8, 2), (677, .aload_n 1, 1), (678, .invokevirtual 63, 3), (681, .iload 10, 2), (683, .if_icmp .ne 12, 3), (686, .aload_n 1, 1), (687, .invokevirtual 67, 3), (690, .iload 11, 2), (692, .if_icmp .eq 5, 3), (695, .iconst 0, 1), (696, .ireturn, 1), (697, .iconst 0, 1), (698, .istore 21, 2), (700, .iload 21, 2), (702, .iload 11, 2), (704, .if_icmp .ge 31, 3), (707, .aload_n 1, 1), (708, .iload 21, 2), (710, .invokevirtual 34, 3), (713, .istore 22, 2), (715, .iload 22, 2), (717, .ifCond .lt 10, 3), (720, .iload 22, 2), (722, .iload 10, 2), (724, .if_icmp .lt 5, 3), (727, .iconst 0, 1), (728, .ireturn, 1), (729, .iinc 21 1, 3), (732, .goto (-32), 3), (735, .aload_n 1, 1), (736, .iconst 0, 1), (737, .lload_n 2, 1), (738, .iload 10, 2), (740, .invokestatic 70, 3), (743, .ifCond .eq 15, 3), (746, .aload_n 1, 1), (747, .iconst 1, 1), (748, .lload 4, 2), (750, .iload 10, 2), (752, .invokestatic 70, 3), (755, .ifCond .ne 5, 3), (758, .iconst 0, 1), (759, .ireturn, 1), (760, .aload_n 1, 1), (761, .iconst 2, 1), (762, .lload 6, 2), (764, .iload 10, 2), (766, .invokestatic 70, 3), (769, .ifCond .eq 15, 3), (772, .aload_n 1, 1), (773, .iconst 3, 1), (774, .lload 8, 2), (776, .iload 10, 2), (778, .invokestatic 70, 3), (781, .ifCond .ne 5, 3), (784, .iconst 0, 1), (785, .ireturn, 1), (786, .iinc 12 4, 3), (789, .goto (-755), 3), (792, .iconst 1, 1), (793, .ireturn, 1)], 27, 9, 224)
def lm3 : Me := ("sel", "(IJJJJ)J", 5, 3, [(0, .iload_n 0, 1), (1, .ifCond .ne 7, 3), (4, .lload_n 1, 1), (5, .goto 24, 3), (8, .iload_n 0, 1), (9, .iconst 1, 1), (10, .if_icmp .ne 7, 3), (13, .lload_n 3, 1), (14, .goto 15, 3), (17, .iload_n 0, 1), (18, .iconst 2, 1), (19, .if_icmp .ne 8, 3), (22, .lload 5, 2), (24, .goto 5, 3), (27, .lload 7, 2), (29, .lreturn, 1)], 9, 0, 0)
def lm4 : Me := ("bits", "(J)I", 1, 1, [(0, .iconst 0, 1), (1, .istore_n 2, 1), (2, .iconst 0, 1), (3, .istore_n 3, 1), (4, .iload_n 3, 1), (5, .bipush 64, 2), (7, .if_icmp .ge 22, 3), (10, .lload_n 0, 1), (11, .iload_n 3, 1), (12, .lushr, 1), (13, .lconst 1, 1), (14, .land, 1), (15, .lconst 0, 1), (16, .lcmp, 1), (17, .ifCond .eq 6, 3), (20, .iinc 2 1, 3), (23, .iinc 3 1, 3), (26, .goto (-22), 3), (29, .iload_n 2, 1), (30, .ireturn, 1)], 4, 0, 0)
def lm5 : Me := ("agrees", "(LFormatMarks;IJI)Z", 4, 2, [(0, .iconst 0, 1), (1, .istore 5, 2), (3, .iconst 0, 1), (4, .istore 6, 2), (6, .iload 6, 2), (8, .iload 4, 2), (10, .if_icmp .ge 66, 3), (13, .lload_n 2, 1), (14, .iload 6, 2), (16, .lushr, 1), (17, .lconst 1, 1), (18, .land, 1), (19, .lconst 0, 1), (20, .lcmp, 1), (21, .ifCond .eq 7, 3), (24, .iconst 1, 1), (25, .goto 4, 3), (28, .iconst 0, 1), (29, .istore 7, 2), (31, .aload_n 0, 1), (32, .iload_n 1, 1), (33, .iload 6, 2), (35, .invokevirtual 74, 3), (38, .iload 7, 2), (40, .if_icmp .eq 5, 3), (43, .iconst 0, 1), (44, .ireturn, 1), (45, .iload 7, 2), (47, .ifCond .eq 23, 3), (50, .aload_n 0, 1), (51, .iload 6, 2), (53, .iconst 2, 1), (54, .invokevirtual 31, 3), (57, .istore 8, 2), (59, .iload 8, 2), (61, .iload 5, 2), (63, .if_icmp .le 7, 3), (66, .iload 8, 2), (68, .istore 5, 2), (70, .iinc 6 1, 3), (73, .goto (-67), 3), (76, .iload 4, 2), (78, .bipush 64, 2), (80, .if_icmp .ge 14, 3), (83, .lload_n 2, 1), (84, .iload 4, 2), (86, .lushr, 1), (87, .lconst 0, 1), (88, .lcmp, 1), (89, .ifCond .eq 5, 3), (92, .iconst 0, 1), (93, .ireturn, 1), (94, .aload_n 0, 1), (95, .iload_n 1, 1), (96, .invokevirtual 17, 3), (99, .iload 5, 2), (101, .if_icmp .ne 7, 3), (104, .iconst 1, 1), (105, .goto 4, 3), (108, .iconst 0, 1), (109, .ireturn, 1)], 9, 2, 29)
def QQ : Lw := ("FormatMarksL6", [(48, 3), (59, 4), (70, 5)], [(13, 11), (17, 16), (20, 2), (24, 3), (27, 4), (31, 13), (34, 15), (37, 5), (41, 6), (45, 7), (54, 8), (63, 12), (67, 14), (74, 17)], 9, 7, 23, [(12, .int (2147483647 : Int32)), (57, .long (-1 : Int64))], [(0, lm0), (3, lm3), (4, lm4), (5, lm5)], 48, 5312)
set_option maxRecDepth 100000
set_option maxHeartbeats 1000000
theorem dk_c0 : chk prog_1_method_1_code cm0.cd = true := by decide +kernel
theorem dk_c51 : chk prog_1_method_51_code cm51.cd = true := by decide +kernel
theorem dk_c39 : chk prog_1_method_39_code cm39.cd = true := by decide +kernel
theorem dk_c49 : chk prog_1_method_49_code cm49.cd = true := by decide +kernel
theorem dk_c15 : chk prog_1_method_15_code cm15.cd = true := by decide +kernel
theorem dk_c25 : chk prog_1_method_25_code cm25.cd = true := by decide +kernel
theorem dk_c5 : chk prog_1_method_5_code cm5.cd = true := by decide +kernel
theorem dk_c12 : chk prog_1_method_12_code cm12.cd = true := by decide +kernel
theorem dk_c14 : chk prog_1_method_14_code cm14.cd = true := by decide +kernel
theorem dk_l5 : chk method_5_code lm5.cd = true := by decide +kernel
theorem dk_c16 : chk prog_1_method_16_code cm16.cd = true := by decide +kernel
theorem dk_c22 : chk prog_1_method_22_code cm22.cd = true := by decide +kernel
theorem dk_c11 : chk prog_1_method_11_code cm11.cd = true := by decide +kernel
theorem dk_c3 : chk prog_1_method_3_code cm3.cd = true := by decide +kernel
theorem dk_c19 : chk prog_1_method_19_code cm19.cd = true := by decide +kernel
theorem dk_c21 : chk prog_1_method_21_code cm21.cd = true := by decide +kernel
theorem dk_c40 : chk prog_1_method_40_code cm40.cd = true := by decide +kernel
theorem dk_c26 : chk prog_1_method_26_code cm26.cd = true := by decide +kernel
theorem dk_c27 : chk prog_1_method_27_code cm27.cd = true := by decide +kernel
theorem dk_c28 : chk prog_1_method_28_code cm28.cd = true := by decide +kernel
theorem dk_c34 : chk prog_1_method_34_code cm34.cd = true := by decide +kernel
theorem dk_c24 : chk prog_1_method_24_code cm24.cd = true := by decide +kernel
theorem dk_c47 : chk prog_1_method_47_code cm47.cd = true := by decide +kernel
theorem dk_c35 : chk prog_1_method_35_code cm35.cd = true := by decide +kernel
theorem dk_c23 : chk prog_1_method_23_code cm23.cd = true := by decide +kernel
theorem dk_c38 : chk prog_1_method_38_code cm38.cd = true := by decide +kernel
theorem dk_c48 : chk prog_1_method_48_code cm48.cd = true := by decide +kernel
theorem dk_c43 : chk prog_1_method_43_code cm43.cd = true := by decide +kernel
theorem dk_c32 : chk prog_1_method_32_code cm32.cd = true := by decide +kernel
theorem dk_c13 : chk prog_1_method_13_code cm13.cd = true := by decide +kernel
theorem dk_c29 : chk prog_1_method_29_code cm29.cd = true := by decide +kernel
theorem dk_c17 : chk prog_1_method_17_code cm17.cd = true := by decide +kernel
theorem dk_c33 : chk prog_1_method_33_code cm33.cd = true := by decide +kernel
theorem dk_c2 : chk prog_1_method_2_code cm2.cd = true := by decide +kernel
theorem dk_c18 : chk prog_1_method_18_code cm18.cd = true := by decide +kernel
theorem dk_c42 : chk prog_1_method_42_code cm42.cd = true := by decide +kernel
theorem dk_c4 : chk prog_1_method_4_code cm4.cd = true := by decide +kernel
theorem dk_c20 : chk prog_1_method_20_code cm20.cd = true := by decide +kernel
theorem dk_c44 : chk prog_1_method_44_code cm44.cd = true := by decide +kernel
theorem dk_c41 : chk prog_1_method_41_code cm41.cd = true := by decide +kernel
theorem dk_c36 : chk prog_1_method_36_code cm36.cd = true := by decide +kernel
theorem dk_c37 : chk prog_1_method_37_code cm37.cd = true := by decide +kernel
theorem dk_c50 : chk prog_1_method_50_code cm50.cd = true := by decide +kernel
theorem dk_c31 : chk prog_1_method_31_code cm31.cd = true := by decide +kernel
theorem dk_l3 : chk method_3_code lm3.cd = true := by decide +kernel
theorem dk_c8 : chk prog_1_method_8_code cm8.cd = true := by decide +kernel
theorem dk_l4 : chk method_4_code lm4.cd = true := by decide +kernel
theorem dk_c7 : chk prog_1_method_7_code cm7.cd = true := by decide +kernel
theorem dk_c6 : chk prog_1_method_6_code cm6.cd = true := by decide +kernel
theorem chk_ap {bytes : ByteArray} : ∀ (x y : Cd), chk bytes x = true → chk bytes y = true → chk bytes (x ++ y) = true
  | [], y, _, h => h
  | (pc, i, n) :: r, y, h, k => by
    simp only [List.cons_append, chk, Bool.and_eq_true] at h ⊢
    exact ⟨h.1, chk_ap r y h.2 k⟩
theorem chk_td {bytes : ByteArray} {l : Cd} (n : Nat) (h : chk bytes (l.take n) = true) (k : chk bytes (l.drop n) = true) : chk bytes l = true := by
  have := chk_ap _ _ h k
  rwa [List.take_append_drop] at this
theorem dk_l0_0 : chk code (lm0.cd.take 80) = true := by decide +kernel
theorem dk_l0_1 : chk code ((lm0.cd.drop 80).take 80) = true := by decide +kernel
theorem dk_l0_2 : chk code (((lm0.cd.drop 80).drop 80).take 80) = true := by decide +kernel
theorem dk_l0_3 : chk code ((((lm0.cd.drop 80).drop 80).drop 80).take 80) = true := by decide +kernel
theorem dk_l0_4 : chk code (((((lm0.cd.drop 80).drop 80).drop 80).drop 80).take 80) = true := by decide +kernel
theorem dk_l0_5 : chk code (((((lm0.cd.drop 80).drop 80).drop 80).drop 80).drop 80) = true := by decide +kernel
theorem dk_l0 : chk code lm0.cd = true := (chk_td 80 dk_l0_0 (chk_td 80 dk_l0_1 (chk_td 80 dk_l0_2 (chk_td 80 dk_l0_3 (chk_td 80 dk_l0_4 dk_l0_5)))))
theorem pk_c0 : parseMethodDescriptor "(III)V" = some ⟨[.int, .int, .int], none⟩ := by decide +kernel
theorem pk_c51 : parseMethodDescriptor "(III)I" = some ⟨[.int, .int, .int], some .int⟩ := by decide +kernel
theorem pk_c39 : parseMethodDescriptor "(I)V" = some ⟨[.int], none⟩ := by decide +kernel
theorem pk_c49 : parseMethodDescriptor "(II)I" = some ⟨[.int, .int], some .int⟩ := by decide +kernel
theorem pk_c15 : parseMethodDescriptor "(I)I" = some ⟨[.int], some .int⟩ := by decide +kernel
theorem pk_c25 : parseMethodDescriptor "(I)Z" = some ⟨[.int], some .boolean⟩ := by decide +kernel
theorem pk_c5 : parseMethodDescriptor "(II)Z" = some ⟨[.int, .int], some .boolean⟩ := by decide +kernel
theorem pk_c12 : parseMethodDescriptor "()I" = some ⟨[], some .int⟩ := by decide +kernel
theorem pk_c14 : parseMethodDescriptor "()I" = some ⟨[], some .int⟩ := by decide +kernel
theorem pk_l5 : parseMethodDescriptor "(LFormatMarks;IJI)Z" = some ⟨[.object "FormatMarks", .int, .long, .int], some .boolean⟩ := by decide +kernel
theorem pk_c16 : parseMethodDescriptor "(I)I" = some ⟨[.int], some .int⟩ := by decide +kernel
theorem pk_c22 : parseMethodDescriptor "(I)Z" = some ⟨[.int], some .boolean⟩ := by decide +kernel
theorem pk_c11 : parseMethodDescriptor "(I)I" = some ⟨[.int], some .int⟩ := by decide +kernel
theorem pk_c3 : parseMethodDescriptor "(II)I" = some ⟨[.int, .int], some .int⟩ := by decide +kernel
theorem pk_c19 : parseMethodDescriptor "(II)Z" = some ⟨[.int, .int], some .boolean⟩ := by decide +kernel
theorem pk_c21 : parseMethodDescriptor "()Z" = some ⟨[], some .boolean⟩ := by decide +kernel
theorem pk_c40 : parseMethodDescriptor "(II)I" = some ⟨[.int, .int], some .int⟩ := by decide +kernel
theorem pk_c26 : parseMethodDescriptor "(III)I" = some ⟨[.int, .int, .int], some .int⟩ := by decide +kernel
theorem pk_c27 : parseMethodDescriptor "(IIII)V" = some ⟨[.int, .int, .int, .int], none⟩ := by decide +kernel
theorem pk_c28 : parseMethodDescriptor "(II)V" = some ⟨[.int, .int], none⟩ := by decide +kernel
theorem pk_c34 : parseMethodDescriptor "(II)Z" = some ⟨[.int, .int], some .boolean⟩ := by decide +kernel
theorem pk_c24 : parseMethodDescriptor "(I)Z" = some ⟨[.int], some .boolean⟩ := by decide +kernel
theorem pk_c47 : parseMethodDescriptor "(II)I" = some ⟨[.int, .int], some .int⟩ := by decide +kernel
theorem pk_c35 : parseMethodDescriptor "(II)V" = some ⟨[.int, .int], none⟩ := by decide +kernel
theorem pk_c23 : parseMethodDescriptor "(I)Z" = some ⟨[.int], some .boolean⟩ := by decide +kernel
theorem pk_c38 : parseMethodDescriptor "(II)I" = some ⟨[.int, .int], some .int⟩ := by decide +kernel
theorem pk_c48 : parseMethodDescriptor "(II)I" = some ⟨[.int, .int], some .int⟩ := by decide +kernel
theorem pk_c43 : parseMethodDescriptor "(II)V" = some ⟨[.int, .int], none⟩ := by decide +kernel
theorem pk_c32 : parseMethodDescriptor "(I)V" = some ⟨[.int], none⟩ := by decide +kernel
theorem pk_c13 : parseMethodDescriptor "(II)I" = some ⟨[.int, .int], some .int⟩ := by decide +kernel
theorem pk_c29 : parseMethodDescriptor "(II)I" = some ⟨[.int, .int], some .int⟩ := by decide +kernel
theorem pk_c17 : parseMethodDescriptor "(II)Z" = some ⟨[.int, .int], some .boolean⟩ := by decide +kernel
theorem pk_c33 : parseMethodDescriptor "(I)V" = some ⟨[.int], none⟩ := by decide +kernel
theorem pk_c2 : parseMethodDescriptor "(II)I" = some ⟨[.int, .int], some .int⟩ := by decide +kernel
theorem pk_c18 : parseMethodDescriptor "(II)Z" = some ⟨[.int, .int], some .boolean⟩ := by decide +kernel
theorem pk_c42 : parseMethodDescriptor "(II)V" = some ⟨[.int, .int], none⟩ := by decide +kernel
theorem pk_c4 : parseMethodDescriptor "(IIII)I" = some ⟨[.int, .int, .int, .int], some .int⟩ := by decide +kernel
theorem pk_c20 : parseMethodDescriptor "(IIII)Z" = some ⟨[.int, .int, .int, .int], some .boolean⟩ := by decide +kernel
theorem pk_c44 : parseMethodDescriptor "(III)I" = some ⟨[.int, .int, .int], some .int⟩ := by decide +kernel
theorem pk_c41 : parseMethodDescriptor "(II)I" = some ⟨[.int, .int], some .int⟩ := by decide +kernel
theorem pk_c36 : parseMethodDescriptor "(II)V" = some ⟨[.int, .int], none⟩ := by decide +kernel
theorem pk_c37 : parseMethodDescriptor "(III)V" = some ⟨[.int, .int, .int], none⟩ := by decide +kernel
theorem pk_c50 : parseMethodDescriptor "(III)I" = some ⟨[.int, .int, .int], some .int⟩ := by decide +kernel
theorem pk_c31 : parseMethodDescriptor "(II)Z" = some ⟨[.int, .int], some .boolean⟩ := by decide +kernel
theorem pk_l3 : parseMethodDescriptor "(IJJJJ)J" = some ⟨[.int, .long, .long, .long, .long], some .long⟩ := by decide +kernel
theorem pk_c8 : parseMethodDescriptor "(II)I" = some ⟨[.int, .int], some .int⟩ := by decide +kernel
theorem pk_l4 : parseMethodDescriptor "(J)I" = some ⟨[.long], some .int⟩ := by decide +kernel
theorem pk_c7 : parseMethodDescriptor "(I)Z" = some ⟨[.int], some .boolean⟩ := by decide +kernel
theorem pk_c6 : parseMethodDescriptor "(I)Z" = some ⟨[.int], some .boolean⟩ := by decide +kernel
theorem lkC (Z : State) (a0 : Array Value) (hw : ∀ d ∈ tables_1, d.before a0 Z = true) : LinkC PP Z a0 :=
  ⟨⟨⟨23, (hw _ (List.mem_of_getElem? (i := 1) rfl))⟩, (hw _ (List.mem_of_getElem? (i := 2) rfl))⟩,
   asc_all (⟨by intro z h; obtain rfl : ("stride", "I", 0, true) = z := Option.some.inj h; exact (hw _ (List.mem_of_getElem? (i := 9) rfl)), by intro z h; obtain rfl : ("typeCount", "I", 0, true) = z := Option.some.inj h; exact (hw _ (List.mem_of_getElem? (i := 11) rfl)), by intro z h; obtain rfl : ("opKind", "[I", 3, true) = z := Option.some.inj h; exact (hw _ (List.mem_of_getElem? (i := 14) rfl)), by intro z h; obtain rfl : ("opReplica", "[I", 4, true) = z := Option.some.inj h; exact (hw _ (List.mem_of_getElem? (i := 16) rfl)), by intro z h; obtain rfl : ("opCounter", "[I", 5, true) = z := Option.some.inj h; exact (hw _ (List.mem_of_getElem? (i := 18) rfl)), by intro z h; obtain rfl : ("opType", "[I", 6, true) = z := Option.some.inj h; exact (hw _ (List.mem_of_getElem? (i := 20) rfl)), by intro z h; obtain rfl : ("opStart", "[I", 7, true) = z := Option.some.inj h; exact (hw _ (List.mem_of_getElem? (i := 22) rfl)), by intro z h; obtain rfl : ("opEnd", "[I", 8, true) = z := Option.some.inj h; exact (hw _ (List.mem_of_getElem? (i := 24) rfl)), by intro z h; obtain rfl : ("opValue", "[I", 9, true) = z := Option.some.inj h; exact (hw _ (List.mem_of_getElem? (i := 26) rfl)), by intro z h; obtain rfl : ("opSlot", "[I", 10, true) = z := Option.some.inj h; exact (hw _ (List.mem_of_getElem? (i := 28) rfl)), by intro z h; obtain rfl : ("pool", "[I", 11, true) = z := Option.some.inj h; exact (hw _ (List.mem_of_getElem? (i := 30) rfl)), by intro z h; obtain rfl : ("clocks", "[I", 12, true) = z := Option.some.inj h; exact (hw _ (List.mem_of_getElem? (i := 32) rfl)), by intro z h; obtain rfl : ("visibleSlots", "[I", 13, true) = z := Option.some.inj h; exact (hw _ (List.mem_of_getElem? (i := 34) rfl)), by intro z h; obtain rfl : ("applied", "[Z", 14, true) = z := Option.some.inj h; exact (hw _ (List.mem_of_getElem? (i := 37) rfl)), by intro z h; obtain rfl : ("insertedAt", "[Z", 15, true) = z := Option.some.inj h; exact (hw _ (List.mem_of_getElem? (i := 39) rfl)), by intro z h; obtain rfl : ("erasedAt", "[Z", 16, true) = z := Option.some.inj h; exact (hw _ (List.mem_of_getElem? (i := 41) rfl)), by intro z h; obtain rfl : ("visList", "[I", 17, true) = z := Option.some.inj h; exact (hw _ (List.mem_of_getElem? (i := 43) rfl)), by intro z h; obtain rfl : ("winner", "[I", 18, true) = z := Option.some.inj h; exact (hw _ (List.mem_of_getElem? (i := 45) rfl)), by intro z h; obtain rfl : ("slotCount", "I", 0, false) = z := Option.some.inj h; exact (hw _ (List.mem_of_getElem? (i := 51) rfl)), by intro z h; obtain rfl : ("opCapacity", "I", 0, false) = z := Option.some.inj h; exact (hw _ (List.mem_of_getElem? (i := 53) rfl)), by intro z h; obtain rfl : ("poolLimit", "I", 0, false) = z := Option.some.inj h; exact (hw _ (List.mem_of_getElem? (i := 55) rfl)), by intro z h; obtain rfl : ("opTotal", "I", 0, false) = z := Option.some.inj h; exact (hw _ (List.mem_of_getElem? (i := 57) rfl)), by intro z h; obtain rfl : ("poolCount", "I", 0, false) = z := Option.some.inj h; exact (hw _ (List.mem_of_getElem? (i := 59) rfl)), trivial⟩),
   asc_all (⟨(hw _ (List.mem_of_getElem? (i := 10) rfl)), (hw _ (List.mem_of_getElem? (i := 12) rfl)), (hw _ (List.mem_of_getElem? (i := 52) rfl)), (hw _ (List.mem_of_getElem? (i := 54) rfl)), (hw _ (List.mem_of_getElem? (i := 56) rfl)), (hw _ (List.mem_of_getElem? (i := 58) rfl)), (hw _ (List.mem_of_getElem? (i := 15) rfl)), (hw _ (List.mem_of_getElem? (i := 17) rfl)), (hw _ (List.mem_of_getElem? (i := 19) rfl)), (hw _ (List.mem_of_getElem? (i := 21) rfl)), (hw _ (List.mem_of_getElem? (i := 23) rfl)), (hw _ (List.mem_of_getElem? (i := 25) rfl)), (hw _ (List.mem_of_getElem? (i := 27) rfl)), (hw _ (List.mem_of_getElem? (i := 29) rfl)), (hw _ (List.mem_of_getElem? (i := 60) rfl)), (hw _ (List.mem_of_getElem? (i := 31) rfl)), (hw _ (List.mem_of_getElem? (i := 33) rfl)), (hw _ (List.mem_of_getElem? (i := 35) rfl)), (hw _ (List.mem_of_getElem? (i := 38) rfl)), (hw _ (List.mem_of_getElem? (i := 40) rfl)), (hw _ (List.mem_of_getElem? (i := 42) rfl)), (hw _ (List.mem_of_getElem? (i := 44) rfl)), (hw _ (List.mem_of_getElem? (i := 46) rfl)), trivial⟩),
   asc_all (⟨(by decide +kernel), (by decide +kernel), (by decide +kernel), (by decide +kernel), (by decide +kernel), (by decide +kernel), (by decide +kernel), (by decide +kernel), (by decide +kernel), (by decide +kernel), (by decide +kernel), (by decide +kernel), (by decide +kernel), (by decide +kernel), (by decide +kernel), (by decide +kernel), (by decide +kernel), (by decide +kernel), (by decide +kernel), (by decide +kernel), (by decide +kernel), (by decide +kernel), (by decide +kernel), trivial⟩),
   dst_ok (by decide +kernel),
   lst_all (⟨⟨by decide, (hw _ (List.mem_of_getElem? (i := 13) rfl))⟩, ⟨by decide, (hw _ (List.mem_of_getElem? (i := 13) rfl))⟩, ⟨by decide, (hw _ (List.mem_of_getElem? (i := 13) rfl))⟩, ⟨by decide, (hw _ (List.mem_of_getElem? (i := 13) rfl))⟩, ⟨by decide, (hw _ (List.mem_of_getElem? (i := 13) rfl))⟩, ⟨by decide, (hw _ (List.mem_of_getElem? (i := 13) rfl))⟩, ⟨by decide, (hw _ (List.mem_of_getElem? (i := 13) rfl))⟩, ⟨by decide, (hw _ (List.mem_of_getElem? (i := 13) rfl))⟩, ⟨by decide, (hw _ (List.mem_of_getElem? (i := 13) rfl))⟩, ⟨by decide, (hw _ (List.mem_of_getElem? (i := 13) rfl))⟩, ⟨by decide, (hw _ (List.mem_of_getElem? (i := 13) rfl))⟩, ⟨by decide, (hw _ (List.mem_of_getElem? (i := 36) rfl))⟩, ⟨by decide, (hw _ (List.mem_of_getElem? (i := 36) rfl))⟩, ⟨by decide, (hw _ (List.mem_of_getElem? (i := 36) rfl))⟩, ⟨by decide, (hw _ (List.mem_of_getElem? (i := 13) rfl))⟩, ⟨by decide, (hw _ (List.mem_of_getElem? (i := 13) rfl))⟩, trivial⟩),
   asc_all (trivial),
   ⟨(hw _ (List.mem_of_getElem? (i := 6) rfl)), (hw _ (List.mem_of_getElem? (i := 7) rfl)), (hw _ (List.mem_of_getElem? (i := 8) rfl))⟩,
   asc_all (⟨⟨prog_1_method_1_code, [.int, .int, .int], (hw _ (List.mem_of_getElem? (i := 5) rfl)), chk_ok dk_c0, pk_c0, rfl⟩, ⟨prog_1_method_2_code, [.int, .int], (hw _ (List.mem_of_getElem? (i := 199) rfl)), chk_ok dk_c2, pk_c2, rfl⟩, ⟨prog_1_method_3_code, [.int, .int], (hw _ (List.mem_of_getElem? (i := 116) rfl)), chk_ok dk_c3, pk_c3, rfl⟩, ⟨prog_1_method_4_code, [.int, .int, .int, .int], (hw _ (List.mem_of_getElem? (i := 212) rfl)), chk_ok dk_c4, pk_c4, rfl⟩, ⟨prog_1_method_5_code, [.int, .int], (hw _ (List.mem_of_getElem? (i := 83) rfl)), chk_ok dk_c5, pk_c5, rfl⟩, ⟨prog_1_method_6_code, [.int], (hw _ (List.mem_of_getElem? (i := 262) rfl)), chk_ok dk_c6, pk_c6, rfl⟩, ⟨prog_1_method_7_code, [.int], (hw _ (List.mem_of_getElem? (i := 257) rfl)), chk_ok dk_c7, pk_c7, rfl⟩, ⟨prog_1_method_8_code, [.int, .int], (hw _ (List.mem_of_getElem? (i := 248) rfl)), chk_ok dk_c8, pk_c8, rfl⟩, ⟨prog_1_method_11_code, [.int], (hw _ (List.mem_of_getElem? (i := 111) rfl)), chk_ok dk_c11, pk_c11, rfl⟩, ⟨prog_1_method_12_code, [], (hw _ (List.mem_of_getElem? (i := 88) rfl)), chk_ok dk_c12, pk_c12, rfl⟩, ⟨prog_1_method_13_code, [.int, .int], (hw _ (List.mem_of_getElem? (i := 181) rfl)), chk_ok dk_c13, pk_c13, rfl⟩, ⟨prog_1_method_14_code, [], (hw _ (List.mem_of_getElem? (i := 93) rfl)), chk_ok dk_c14, pk_c14, rfl⟩, ⟨prog_1_method_15_code, [.int], (hw _ (List.mem_of_getElem? (i := 74) rfl)), chk_ok dk_c15, pk_c15, rfl⟩, ⟨prog_1_method_16_code, [.int], (hw _ (List.mem_of_getElem? (i := 102) rfl)), chk_ok dk_c16, pk_c16, rfl⟩, ⟨prog_1_method_17_code, [.int, .int], (hw _ (List.mem_of_getElem? (i := 190) rfl)), chk_ok dk_c17, pk_c17, rfl⟩, ⟨prog_1_method_18_code, [.int, .int], (hw _ (List.mem_of_getElem? (i := 203) rfl)), chk_ok dk_c18, pk_c18, rfl⟩, ⟨prog_1_method_19_code, [.int, .int], (hw _ (List.mem_of_getElem? (i := 120) rfl)), chk_ok dk_c19, pk_c19, rfl⟩, ⟨prog_1_method_20_code, [.int, .int, .int, .int], (hw _ (List.mem_of_getElem? (i := 216) rfl)), chk_ok dk_c20, pk_c20, rfl⟩, ⟨prog_1_method_21_code, [], (hw _ (List.mem_of_getElem? (i := 124) rfl)), chk_ok dk_c21, pk_c21, rfl⟩, ⟨prog_1_method_22_code, [.int], (hw _ (List.mem_of_getElem? (i := 106) rfl)), chk_ok dk_c22, pk_c22, rfl⟩, ⟨prog_1_method_23_code, [.int], (hw _ (List.mem_of_getElem? (i := 160) rfl)), chk_ok dk_c23, pk_c23, rfl⟩, ⟨prog_1_method_24_code, [.int], (hw _ (List.mem_of_getElem? (i := 148) rfl)), chk_ok dk_c24, pk_c24, rfl⟩, ⟨prog_1_method_25_code, [.int], (hw _ (List.mem_of_getElem? (i := 78) rfl)), chk_ok dk_c25, pk_c25, rfl⟩, ⟨prog_1_method_26_code, [.int, .int, .int], (hw _ (List.mem_of_getElem? (i := 132) rfl)), chk_ok dk_c26, pk_c26, rfl⟩, ⟨prog_1_method_27_code, [.int, .int, .int, .int], (hw _ (List.mem_of_getElem? (i := 136) rfl)), chk_ok dk_c27, pk_c27, rfl⟩, ⟨prog_1_method_28_code, [.int, .int], (hw _ (List.mem_of_getElem? (i := 140) rfl)), chk_ok dk_c28, pk_c28, rfl⟩, ⟨prog_1_method_29_code, [.int, .int], (hw _ (List.mem_of_getElem? (i := 185) rfl)), chk_ok dk_c29, pk_c29, rfl⟩, ⟨prog_1_method_31_code, [.int, .int], (hw _ (List.mem_of_getElem? (i := 240) rfl)), chk_ok dk_c31, pk_c31, rfl⟩, ⟨prog_1_method_32_code, [.int], (hw _ (List.mem_of_getElem? (i := 176) rfl)), chk_ok dk_c32, pk_c32, rfl⟩, ⟨prog_1_method_33_code, [.int], (hw _ (List.mem_of_getElem? (i := 194) rfl)), chk_ok dk_c33, pk_c33, rfl⟩, ⟨prog_1_method_34_code, [.int, .int], (hw _ (List.mem_of_getElem? (i := 144) rfl)), chk_ok dk_c34, pk_c34, rfl⟩, ⟨prog_1_method_35_code, [.int, .int], (hw _ (List.mem_of_getElem? (i := 156) rfl)), chk_ok dk_c35, pk_c35, rfl⟩, ⟨prog_1_method_36_code, [.int, .int], (hw _ (List.mem_of_getElem? (i := 228) rfl)), chk_ok dk_c36, pk_c36, rfl⟩, ⟨prog_1_method_37_code, [.int, .int, .int], (hw _ (List.mem_of_getElem? (i := 232) rfl)), chk_ok dk_c37, pk_c37, rfl⟩, ⟨prog_1_method_38_code, [.int, .int], (hw _ (List.mem_of_getElem? (i := 164) rfl)), chk_ok dk_c38, pk_c38, rfl⟩, ⟨prog_1_method_39_code, [.int], (hw _ (List.mem_of_getElem? (i := 64) rfl)), chk_ok dk_c39, pk_c39, rfl⟩, ⟨prog_1_method_40_code, [.int, .int], (hw _ (List.mem_of_getElem? (i := 128) rfl)), chk_ok dk_c40, pk_c40, rfl⟩, ⟨prog_1_method_41_code, [.int, .int], (hw _ (List.mem_of_getElem? (i := 224) rfl)), chk_ok dk_c41, pk_c41, rfl⟩, ⟨prog_1_method_42_code, [.int, .int], (hw _ (List.mem_of_getElem? (i := 207) rfl)), chk_ok dk_c42, pk_c42, rfl⟩, ⟨prog_1_method_43_code, [.int, .int], (hw _ (List.mem_of_getElem? (i := 172) rfl)), chk_ok dk_c43, pk_c43, rfl⟩, ⟨prog_1_method_44_code, [.int, .int, .int], (hw _ (List.mem_of_getElem? (i := 220) rfl)), chk_ok dk_c44, pk_c44, rfl⟩, ⟨prog_1_method_47_code, [.int, .int], (hw _ (List.mem_of_getElem? (i := 152) rfl)), chk_ok dk_c47, pk_c47, rfl⟩, ⟨prog_1_method_48_code, [.int, .int], (hw _ (List.mem_of_getElem? (i := 168) rfl)), chk_ok dk_c48, pk_c48, rfl⟩, ⟨prog_1_method_49_code, [.int, .int], (hw _ (List.mem_of_getElem? (i := 68) rfl)), chk_ok dk_c49, pk_c49, rfl⟩, ⟨prog_1_method_50_code, [.int, .int, .int], (hw _ (List.mem_of_getElem? (i := 236) rfl)), chk_ok dk_c50, pk_c50, rfl⟩, ⟨prog_1_method_51_code, [.int, .int, .int], (hw _ (List.mem_of_getElem? (i := 50) rfl)), chk_ok dk_c51, pk_c51, rfl⟩, trivial⟩),
   asc_all (⟨by intro z h; obtain rfl : cm51 = z := Option.some.inj h; exact ⟨(hw _ (List.mem_of_getElem? (i := 47) rfl)), (hw _ (List.mem_of_getElem? (i := 48) rfl)), Or.inl (hw _ (List.mem_of_getElem? (i := 49) rfl))⟩, by intro z h; obtain rfl : cm39 = z := Option.some.inj h; exact ⟨(hw _ (List.mem_of_getElem? (i := 61) rfl)), (hw _ (List.mem_of_getElem? (i := 62) rfl)), Or.inl (hw _ (List.mem_of_getElem? (i := 63) rfl))⟩, by intro z h; obtain rfl : cm18 = z := Option.some.inj h; exact ⟨(hw _ (List.mem_of_getElem? (i := 200) rfl)), (hw _ (List.mem_of_getElem? (i := 201) rfl)), Or.inl (hw _ (List.mem_of_getElem? (i := 202) rfl))⟩, by intro z h; obtain rfl : cm26 = z := Option.some.inj h; exact ⟨(hw _ (List.mem_of_getElem? (i := 129) rfl)), (hw _ (List.mem_of_getElem? (i := 130) rfl)), Or.inl (hw _ (List.mem_of_getElem? (i := 131) rfl))⟩, by intro z h; obtain rfl : cm28 = z := Option.some.inj h; exact ⟨(hw _ (List.mem_of_getElem? (i := 137) rfl)), (hw _ (List.mem_of_getElem? (i := 138) rfl)), Or.inl (hw _ (List.mem_of_getElem? (i := 139) rfl))⟩, by intro z h; obtain rfl : cm19 = z := Option.some.inj h; exact ⟨(hw _ (List.mem_of_getElem? (i := 117) rfl)), (hw _ (List.mem_of_getElem? (i := 118) rfl)), Or.inl (hw _ (List.mem_of_getElem? (i := 119) rfl))⟩, by intro z h; obtain rfl : cm40 = z := Option.some.inj h; exact ⟨(hw _ (List.mem_of_getElem? (i := 125) rfl)), (hw _ (List.mem_of_getElem? (i := 126) rfl)), Or.inl (hw _ (List.mem_of_getElem? (i := 127) rfl))⟩, by intro z h; obtain rfl : cm20 = z := Option.some.inj h; exact ⟨(hw _ (List.mem_of_getElem? (i := 213) rfl)), (hw _ (List.mem_of_getElem? (i := 214) rfl)), Or.inl (hw _ (List.mem_of_getElem? (i := 215) rfl))⟩, by intro z h; obtain rfl : cm44 = z := Option.some.inj h; exact ⟨(hw _ (List.mem_of_getElem? (i := 217) rfl)), (hw _ (List.mem_of_getElem? (i := 218) rfl)), Or.inl (hw _ (List.mem_of_getElem? (i := 219) rfl))⟩, by intro z h; obtain rfl : cm27 = z := Option.some.inj h; exact ⟨(hw _ (List.mem_of_getElem? (i := 133) rfl)), (hw _ (List.mem_of_getElem? (i := 134) rfl)), Or.inl (hw _ (List.mem_of_getElem? (i := 135) rfl))⟩, by intro z h; obtain rfl : cm25 = z := Option.some.inj h; exact ⟨(hw _ (List.mem_of_getElem? (i := 75) rfl)), (hw _ (List.mem_of_getElem? (i := 76) rfl)), Or.inl (hw _ (List.mem_of_getElem? (i := 77) rfl))⟩, by intro z h; obtain rfl : cm22 = z := Option.some.inj h; exact ⟨(hw _ (List.mem_of_getElem? (i := 103) rfl)), (hw _ (List.mem_of_getElem? (i := 104) rfl)), Or.inl (hw _ (List.mem_of_getElem? (i := 105) rfl))⟩, by intro z h; obtain rfl : cm33 = z := Option.some.inj h; exact ⟨(hw _ (List.mem_of_getElem? (i := 191) rfl)), (hw _ (List.mem_of_getElem? (i := 192) rfl)), Or.inl (hw _ (List.mem_of_getElem? (i := 193) rfl))⟩, by intro z h; obtain rfl : cm34 = z := Option.some.inj h; exact ⟨(hw _ (List.mem_of_getElem? (i := 141) rfl)), (hw _ (List.mem_of_getElem? (i := 142) rfl)), Or.inl (hw _ (List.mem_of_getElem? (i := 143) rfl))⟩, by intro z h; obtain rfl : cm32 = z := Option.some.inj h; exact ⟨(hw _ (List.mem_of_getElem? (i := 173) rfl)), (hw _ (List.mem_of_getElem? (i := 174) rfl)), Or.inl (hw _ (List.mem_of_getElem? (i := 175) rfl))⟩, by intro z h; obtain rfl : cm47 = z := Option.some.inj h; exact ⟨(hw _ (List.mem_of_getElem? (i := 149) rfl)), (hw _ (List.mem_of_getElem? (i := 150) rfl)), Or.inl (hw _ (List.mem_of_getElem? (i := 151) rfl))⟩, by intro z h; obtain rfl : cm23 = z := Option.some.inj h; exact ⟨(hw _ (List.mem_of_getElem? (i := 157) rfl)), (hw _ (List.mem_of_getElem? (i := 158) rfl)), Or.inl (hw _ (List.mem_of_getElem? (i := 159) rfl))⟩, by intro z h; obtain rfl : cm38 = z := Option.some.inj h; exact ⟨(hw _ (List.mem_of_getElem? (i := 161) rfl)), (hw _ (List.mem_of_getElem? (i := 162) rfl)), Or.inl (hw _ (List.mem_of_getElem? (i := 163) rfl))⟩, by intro z h; obtain rfl : cm24 = z := Option.some.inj h; exact ⟨(hw _ (List.mem_of_getElem? (i := 145) rfl)), (hw _ (List.mem_of_getElem? (i := 146) rfl)), Or.inl (hw _ (List.mem_of_getElem? (i := 147) rfl))⟩, by intro z h; obtain rfl : cm29 = z := Option.some.inj h; exact ⟨(hw _ (List.mem_of_getElem? (i := 182) rfl)), (hw _ (List.mem_of_getElem? (i := 183) rfl)), Or.inl (hw _ (List.mem_of_getElem? (i := 184) rfl))⟩, by intro z h; obtain rfl : cm21 = z := Option.some.inj h; exact ⟨(hw _ (List.mem_of_getElem? (i := 121) rfl)), (hw _ (List.mem_of_getElem? (i := 122) rfl)), Or.inl (hw _ (List.mem_of_getElem? (i := 123) rfl))⟩, by intro z h; obtain rfl : cm35 = z := Option.some.inj h; exact ⟨(hw _ (List.mem_of_getElem? (i := 153) rfl)), (hw _ (List.mem_of_getElem? (i := 154) rfl)), Or.inl (hw _ (List.mem_of_getElem? (i := 155) rfl))⟩, by intro z h; obtain rfl : cm36 = z := Option.some.inj h; exact ⟨(hw _ (List.mem_of_getElem? (i := 225) rfl)), (hw _ (List.mem_of_getElem? (i := 226) rfl)), Or.inl (hw _ (List.mem_of_getElem? (i := 227) rfl))⟩, by intro z h; obtain rfl : cm48 = z := Option.some.inj h; exact ⟨(hw _ (List.mem_of_getElem? (i := 165) rfl)), (hw _ (List.mem_of_getElem? (i := 166) rfl)), Or.inl (hw _ (List.mem_of_getElem? (i := 167) rfl))⟩, by intro z h; obtain rfl : cm42 = z := Option.some.inj h; exact ⟨(hw _ (List.mem_of_getElem? (i := 204) rfl)), (hw _ (List.mem_of_getElem? (i := 205) rfl)), Or.inl (hw _ (List.mem_of_getElem? (i := 206) rfl))⟩, by intro z h; obtain rfl : cm43 = z := Option.some.inj h; exact ⟨(hw _ (List.mem_of_getElem? (i := 169) rfl)), (hw _ (List.mem_of_getElem? (i := 170) rfl)), Or.inl (hw _ (List.mem_of_getElem? (i := 171) rfl))⟩, by intro z h; obtain rfl : cm37 = z := Option.some.inj h; exact ⟨(hw _ (List.mem_of_getElem? (i := 229) rfl)), (hw _ (List.mem_of_getElem? (i := 230) rfl)), Or.inl (hw _ (List.mem_of_getElem? (i := 231) rfl))⟩, by intro z h; obtain rfl : cm50 = z := Option.some.inj h; exact ⟨(hw _ (List.mem_of_getElem? (i := 233) rfl)), (hw _ (List.mem_of_getElem? (i := 234) rfl)), Or.inl (hw _ (List.mem_of_getElem? (i := 235) rfl))⟩, by intro z h; obtain rfl : cm31 = z := Option.some.inj h; exact ⟨(hw _ (List.mem_of_getElem? (i := 237) rfl)), (hw _ (List.mem_of_getElem? (i := 238) rfl)), Or.inl (hw _ (List.mem_of_getElem? (i := 239) rfl))⟩, by intro z h; obtain rfl : cm49 = z := Option.some.inj h; exact ⟨(hw _ (List.mem_of_getElem? (i := 65) rfl)), (hw _ (List.mem_of_getElem? (i := 66) rfl)), Or.inl (hw _ (List.mem_of_getElem? (i := 67) rfl))⟩, by intro z h; obtain rfl : cm41 = z := Option.some.inj h; exact ⟨(hw _ (List.mem_of_getElem? (i := 221) rfl)), (hw _ (List.mem_of_getElem? (i := 222) rfl)), Or.inl (hw _ (List.mem_of_getElem? (i := 223) rfl))⟩, trivial⟩),
   (by first | (simp [plainName, overriddenIn]; done) | decide +kernel),
   (by decide),
   (by intro me h; obtain rfl : cm0 = me := Option.some.inj h; rfl)⟩
theorem lkL (Z : State) (a0 : Array Value) (hw : ∀ d ∈ tables_1, d.before a0 Z = true) : LinkL PP QQ Z a0 :=
  ⟨⟨(hw _ (List.mem_of_getElem? (i := 0) rfl)), (hw _ (List.mem_of_getElem? (i := 1) rfl))⟩,
   (by intro me h; obtain rfl : cm0 = me := Option.some.inj h; exact ⟨(hw _ (List.mem_of_getElem? (i := 3) rfl)), (hw _ (List.mem_of_getElem? (i := 4) rfl)), rfl⟩),
   asc_all (⟨by intro z h; obtain rfl : cm11 = z := Option.some.inj h; exact ⟨(hw _ (List.mem_of_getElem? (i := 107) rfl)), (hw _ (List.mem_of_getElem? (i := 108) rfl)), (hw _ (List.mem_of_getElem? (i := 109) rfl)), (hw _ (List.mem_of_getElem? (i := 110) rfl))⟩, by intro z h; obtain rfl : cm16 = z := Option.some.inj h; exact ⟨(hw _ (List.mem_of_getElem? (i := 98) rfl)), (hw _ (List.mem_of_getElem? (i := 99) rfl)), (hw _ (List.mem_of_getElem? (i := 100) rfl)), (hw _ (List.mem_of_getElem? (i := 101) rfl))⟩, by intro z h; obtain rfl : cm2 = z := Option.some.inj h; exact ⟨(hw _ (List.mem_of_getElem? (i := 195) rfl)), (hw _ (List.mem_of_getElem? (i := 196) rfl)), (hw _ (List.mem_of_getElem? (i := 197) rfl)), (hw _ (List.mem_of_getElem? (i := 198) rfl))⟩, by intro z h; obtain rfl : cm3 = z := Option.some.inj h; exact ⟨(hw _ (List.mem_of_getElem? (i := 112) rfl)), (hw _ (List.mem_of_getElem? (i := 113) rfl)), (hw _ (List.mem_of_getElem? (i := 114) rfl)), (hw _ (List.mem_of_getElem? (i := 115) rfl))⟩, by intro z h; obtain rfl : cm4 = z := Option.some.inj h; exact ⟨(hw _ (List.mem_of_getElem? (i := 208) rfl)), (hw _ (List.mem_of_getElem? (i := 209) rfl)), (hw _ (List.mem_of_getElem? (i := 210) rfl)), (hw _ (List.mem_of_getElem? (i := 211) rfl))⟩, by intro z h; obtain rfl : cm13 = z := Option.some.inj h; exact ⟨(hw _ (List.mem_of_getElem? (i := 177) rfl)), (hw _ (List.mem_of_getElem? (i := 178) rfl)), (hw _ (List.mem_of_getElem? (i := 179) rfl)), (hw _ (List.mem_of_getElem? (i := 180) rfl))⟩, by intro z h; obtain rfl : cm15 = z := Option.some.inj h; exact ⟨(hw _ (List.mem_of_getElem? (i := 70) rfl)), (hw _ (List.mem_of_getElem? (i := 71) rfl)), (hw _ (List.mem_of_getElem? (i := 72) rfl)), (hw _ (List.mem_of_getElem? (i := 73) rfl))⟩, by intro z h; obtain rfl : cm5 = z := Option.some.inj h; exact ⟨(hw _ (List.mem_of_getElem? (i := 79) rfl)), (hw _ (List.mem_of_getElem? (i := 80) rfl)), (hw _ (List.mem_of_getElem? (i := 81) rfl)), (hw _ (List.mem_of_getElem? (i := 82) rfl))⟩, by intro z h; obtain rfl : cm6 = z := Option.some.inj h; exact ⟨(hw _ (List.mem_of_getElem? (i := 258) rfl)), (hw _ (List.mem_of_getElem? (i := 259) rfl)), (hw _ (List.mem_of_getElem? (i := 260) rfl)), (hw _ (List.mem_of_getElem? (i := 261) rfl))⟩, by intro z h; obtain rfl : cm7 = z := Option.some.inj h; exact ⟨(hw _ (List.mem_of_getElem? (i := 253) rfl)), (hw _ (List.mem_of_getElem? (i := 254) rfl)), (hw _ (List.mem_of_getElem? (i := 255) rfl)), (hw _ (List.mem_of_getElem? (i := 256) rfl))⟩, by intro z h; obtain rfl : cm8 = z := Option.some.inj h; exact ⟨(hw _ (List.mem_of_getElem? (i := 244) rfl)), (hw _ (List.mem_of_getElem? (i := 245) rfl)), (hw _ (List.mem_of_getElem? (i := 246) rfl)), (hw _ (List.mem_of_getElem? (i := 247) rfl))⟩, by intro z h; obtain rfl : cm12 = z := Option.some.inj h; exact ⟨(hw _ (List.mem_of_getElem? (i := 84) rfl)), (hw _ (List.mem_of_getElem? (i := 85) rfl)), (hw _ (List.mem_of_getElem? (i := 86) rfl)), (hw _ (List.mem_of_getElem? (i := 87) rfl))⟩, by intro z h; obtain rfl : cm14 = z := Option.some.inj h; exact ⟨(hw _ (List.mem_of_getElem? (i := 89) rfl)), (hw _ (List.mem_of_getElem? (i := 90) rfl)), (hw _ (List.mem_of_getElem? (i := 91) rfl)), (hw _ (List.mem_of_getElem? (i := 92) rfl))⟩, by intro z h; obtain rfl : cm17 = z := Option.some.inj h; exact ⟨(hw _ (List.mem_of_getElem? (i := 186) rfl)), (hw _ (List.mem_of_getElem? (i := 187) rfl)), (hw _ (List.mem_of_getElem? (i := 188) rfl)), (hw _ (List.mem_of_getElem? (i := 189) rfl))⟩, trivial⟩),
   asc_all (⟨by intro z h; obtain rfl : lm3 = z := Option.some.inj h; exact ⟨(hw _ (List.mem_of_getElem? (i := 241) rfl)), (hw _ (List.mem_of_getElem? (i := 242) rfl)), (hw _ (List.mem_of_getElem? (i := 96) rfl))⟩, by intro z h; obtain rfl : lm4 = z := Option.some.inj h; exact ⟨(hw _ (List.mem_of_getElem? (i := 250) rfl)), (hw _ (List.mem_of_getElem? (i := 251) rfl)), (hw _ (List.mem_of_getElem? (i := 96) rfl))⟩, by intro z h; obtain rfl : lm5 = z := Option.some.inj h; exact ⟨(hw _ (List.mem_of_getElem? (i := 94) rfl)), (hw _ (List.mem_of_getElem? (i := 95) rfl)), (hw _ (List.mem_of_getElem? (i := 96) rfl))⟩, trivial⟩),
   asc_all (⟨(hw _ (List.mem_of_getElem? (i := 69) rfl)), (hw _ (List.mem_of_getElem? (i := 249) rfl)), trivial⟩),
   asc_all (⟨fun h => absurd rfl h, fun _ => ⟨method_3_code, [.int, .long, .long, .long, .long], (hw _ (List.mem_of_getElem? (i := 243) rfl)), chk_ok dk_l3, pk_l3, rfl⟩, fun _ => ⟨method_4_code, [.long], (hw _ (List.mem_of_getElem? (i := 252) rfl)), chk_ok dk_l4, pk_l4, rfl⟩, fun _ => ⟨method_5_code, [.object "FormatMarks", .int, .long, .int], (hw _ (List.mem_of_getElem? (i := 97) rfl)), chk_ok dk_l5, pk_l5, rfl⟩, trivial⟩),
   (by first | (simp [plainName, overriddenIn]; done) | decide +kernel),
   (by decide)⟩
theorem c51_in (a1 : Int32) (a2 : Int32) (a3 : Int32) (s : St) (Q : Int32 → St → Prop) (h : ((a1 < a2) → Q a2 s) ∧ (¬ (a1 < a2) → ((a3 < a1) → Q a3 s) ∧ (¬ (a3 < a1) → Q a1 s))) : calI PP 51 16 [.ref 0, .int a1, .int a2, .int a3] s Q := by
  refine cal_of (me := cm51) (ls := [some (.ref 0), some (.int a1), some (.int a2), some (.int a3)]) rfl (Nat.le_of_ble_eq_true rfl) rfl ?_
  refine wpc_sl (n := 2) (c' := 16) (pc' := 2) (ls' := [some (.ref 0), some (.int a1), some (.int a2), some (.int a3)]) (st' := [.int a2, .int a1]) (s' := s) rfl ?_
  refine wpc_icmp (a := 7) (b := 5) rfl (by decide) rfl rfl (wpc_br (p := a1 < a2) ⟨fun hc251 => ?_, fun hc251 => ?_⟩)
  · have h252 := h.1 hc251
    refine wpc_sl (n := 1) (c' := 16) (pc' := 6) (ls' := [some (.ref 0), some (.int a1), some (.int a2), some (.int a3)]) (st' := [.int a2]) (s' := s) rfl ?_
    exact wpc_ret rfl rfl (fun q => absurd q (by decide)) rfl ⟨a2, rfl, h252⟩
  · have h253 := h.2 hc251
    refine wpc_sl (n := 2) (c' := 16) (pc' := 9) (ls' := [some (.ref 0), some (.int a1), some (.int a2), some (.int a3)]) (st' := [.int a3, .int a1]) (s' := s) rfl ?_
    refine wpc_icmp (a := 14) (b := 12) rfl (by decide) rfl rfl (wpc_br (p := a3 < a1) ⟨fun hc254 => ?_, fun hc254 => ?_⟩)
    · have h255 := h253.1 hc254
      refine wpc_sl (n := 1) (c' := 16) (pc' := 13) (ls' := [some (.ref 0), some (.int a1), some (.int a2), some (.int a3)]) (st' := [.int a3]) (s' := s) rfl ?_
      exact wpc_ret rfl rfl (fun q => absurd q (by decide)) rfl ⟨a3, rfl, h255⟩
    · have h256 := h253.2 hc254
      refine wpc_sl (n := 1) (c' := 16) (pc' := 15) (ls' := [some (.ref 0), some (.int a1), some (.int a2), some (.int a3)]) (st' := [.int a1]) (s' := s) rfl ?_
      exact wpc_ret rfl rfl (fun q => absurd q (by decide)) rfl ⟨a1, rfl, h256⟩
theorem c49_in (a1 : Int32) (a2 : Int32) (s : St) (Q : Int32 → St → Prop) (h : Q ((a1 * (64 : Int32)) + a2) s) : calI PP 49 16 [.ref 0, .int a1, .int a2] s Q := by
  refine cal_of (me := cm49) (ls := [some (.ref 0), some (.int a1), some (.int a2)]) rfl (Nat.le_of_ble_eq_true rfl) rfl ?_
  refine wpc_sl (n := 5) (c' := 16) (pc' := 6) (ls' := [some (.ref 0), some (.int a1), some (.int a2)]) (st' := [.int ((a1 * (64 : Int32)) + a2)]) (s' := s) rfl ?_
  exact wpc_ret rfl rfl (fun q => absurd q (by decide)) rfl ⟨((a1 * (64 : Int32)) + a2), rfl, h⟩
theorem c39_in (a1 : Int32) (s : St) (Q : St → Prop) (h : inb 4 a1 ∧ wpcV PP 39 cm39 16 11 [some (.ref 0), some (.int a1), some (.int (0 : Int32)), some (.int (0 : Int32))] [] (sI s 10 (ix a1) (0 : Int32)) Q) : calV PP 39 16 [.ref 0, .int a1] s Q := by
  refine cal_of (me := cm39) (ls := [some (.ref 0), some (.int a1), none, none]) rfl (Nat.le_of_ble_eq_true rfl) rfl ?_
  refine wpc_sl (n := 4) (c' := 16) (pc' := 6) (ls' := [some (.ref 0), some (.int a1), none, none]) (st' := [.int (0 : Int32), .int a1, .ref 10]) (s' := s) rfl ?_
  refine wpc_staI (a := 9) (N := 4) (s' := (sI s 10 (ix a1) (0 : Int32))) rfl rfl (by decide) h.1 rfl ?_
  have h257 := h.2
  refine wpc_sl (n := 4) (c' := 16) (pc' := 11) (ls' := [some (.ref 0), some (.int a1), some (.int (0 : Int32)), some (.int (0 : Int32))]) (st' := []) (s' := (sI s 10 (ix a1) (0 : Int32))) rfl ?_
  exact h257
theorem c39_11 (x1 : Int32) (x2 : Int32) (x3 : Int32) (s : St) (Q : St → Prop) (h : ((x3 < (gI s 0 28)) → calI PP 49 16 [.ref 0, .int x1, .int x2] s (fun v262 s261 => inb 256 v262 ∧ wpcV PP 39 cm39 16 11 [some (.ref 0), some (.int x1), some (.int (x2 + (1 : Int32))), some (.int (x3 + (2 : Int32)))] [] (sI s261 15 (ix v262) x3) Q)) ∧ (¬ (x3 < (gI s 0 28)) → inb 4 x1 ∧ Q (sI s 11 (ix x1) x2))) : wpcV PP 39 cm39 16 11 [some (.ref 0), some (.int x1), some (.int x2), some (.int x3)] [] s Q := by
  refine wpc_sl (n := 3) (c' := 16) (pc' := 16) (ls' := [some (.ref 0), some (.int x1), some (.int x2), some (.int x3)]) (st' := [.int (gI s 0 28), .int x3]) (s' := s) rfl ?_
  refine wpc_icmp (a := 40) (b := 19) rfl (by decide) rfl rfl (wpc_br (p := x3 < (gI s 0 28)) ⟨fun hc258 => ?_, fun hc258 => ?_⟩)
  · have h259 := h.1 hc258
    refine wpc_sl (n := 5) (c' := 16) (pc' := 26) (ls' := [some (.ref 0), some (.int x1), some (.int x2), some (.int x3)]) (st' := [.int x2, .int x1, .ref 0, .ref 15]) (s' := s) rfl ?_
    refine wpc_callI (m' := 49) (me' := cm49) (as := [.int x1, .int x2]) (r := [.ref 15]) rfl rfl rfl rfl rfl ⟨by decide, (by first | decide | exact Nat.le_of_ble_eq_true rfl), (by first | decide | exact Nat.le_of_ble_eq_true rfl), rfl⟩ (calI.mono h259 fun v262 s261 h263 => ?_)
    refine wpc_sl (n := 1) (c' := 16) (pc' := 30) (ls' := [some (.ref 0), some (.int x1), some (.int x2), some (.int x3)]) (st' := [.int x3, .int v262, .ref 15]) (s' := s261) rfl ?_
    refine wpc_staI (a := 14) (N := 256) (s' := (sI s261 15 (ix v262) x3)) rfl rfl (by decide) h263.1 rfl ?_
    have h264 := h263.2
    refine wpc_sl (n := 3) (c' := 16) (pc' := 11) (ls' := [some (.ref 0), some (.int x1), some (.int (x2 + (1 : Int32))), some (.int (x3 + (2 : Int32)))]) (st' := []) (s' := (sI s261 15 (ix v262) x3)) rfl ?_
    exact h264
  · have h260 := h.2 hc258
    refine wpc_sl (n := 4) (c' := 16) (pc' := 46) (ls' := [some (.ref 0), some (.int x1), some (.int x2), some (.int x3)]) (st' := [.int x2, .int x1, .ref 11]) (s' := s) rfl ?_
    refine wpc_staI (a := 10) (N := 4) (s' := (sI s 11 (ix x1) x2)) rfl rfl (by decide) h260.1 rfl ?_
    have h265 := h260.2
    exact wpc_ret rfl rfl (fun q => absurd q (by decide)) rfl ⟨rfl, h265⟩
theorem c0_in (a1 : Int32) (a2 : Int32) (a3 : Int32) (s : St) (Q : St → Prop) (h : calI PP 51 16 [.ref 0, .int a1, .int (8 : Int32), .int (64 : Int32)] (sI (sI s 0 26 (64 : Int32)) 0 27 (4 : Int32)) (fun v237 s236 => calI PP 51 16 [.ref 0, .int a2, .int (8 : Int32), .int (64 : Int32)] (sI s236 0 28 v237) (fun v240 s239 => calI PP 51 16 [.ref 0, .int a3, .int (8 : Int32), .int (32 : Int32)] (sI s239 0 29 v240) (fun v243 s242 => wpcV PP 0 cm0 16 198 [some (.ref 0), none, none, none, some (.int (0 : Int32))] [] (sI (sI (sI s242 0 30 v243) 0 31 (0 : Int32)) 0 40 (0 : Int32)) Q)))) : calV PP 0 0 [.ref 0, .int a1, .int a2, .int a3] s Q := by
  refine cal_of (me := cm0) (ls := [some (.ref 0), some (.int a1), some (.int a2), some (.int a3), none]) rfl (Nat.le_of_ble_eq_true rfl) rfl ?_
  refine wpc_sl (n := 61) (c' := 16) (pc' := 153) (ls' := [some (.ref 0), some (.int a1), some (.int a2), some (.int a3), none]) (st' := [.int (64 : Int32), .int (8 : Int32), .int a1, .ref 0, .ref 0]) (s' := (sI (sI s 0 26 (64 : Int32)) 0 27 (4 : Int32))) rfl ?_
  refine wpc_callI (m' := 51) (me' := cm51) (as := [.int a1, .int (8 : Int32), .int (64 : Int32)]) (r := [.ref 0]) rfl rfl rfl rfl rfl ⟨by decide, (by first | decide | exact Nat.le_of_ble_eq_true rfl), (by first | decide | exact Nat.le_of_ble_eq_true rfl), rfl⟩ (calI.mono h fun v237 s236 h238 => ?_)
  refine wpc_sl (n := 6) (c' := 16) (pc' := 166) (ls' := [some (.ref 0), some (.int a1), some (.int a2), some (.int a3), none]) (st' := [.int (64 : Int32), .int (8 : Int32), .int a2, .ref 0, .ref 0]) (s' := (sI s236 0 28 v237)) rfl ?_
  refine wpc_callI (m' := 51) (me' := cm51) (as := [.int a2, .int (8 : Int32), .int (64 : Int32)]) (r := [.ref 0]) rfl rfl rfl rfl rfl ⟨by decide, (by first | decide | exact Nat.le_of_ble_eq_true rfl), (by first | decide | exact Nat.le_of_ble_eq_true rfl), rfl⟩ (calI.mono h238 fun v240 s239 h241 => ?_)
  refine wpc_sl (n := 6) (c' := 16) (pc' := 179) (ls' := [some (.ref 0), some (.int a1), some (.int a2), some (.int a3), none]) (st' := [.int (32 : Int32), .int (8 : Int32), .int a3, .ref 0, .ref 0]) (s' := (sI s239 0 29 v240)) rfl ?_
  refine wpc_callI (m' := 51) (me' := cm51) (as := [.int a3, .int (8 : Int32), .int (32 : Int32)]) (r := [.ref 0]) rfl rfl rfl rfl rfl ⟨by decide, (by first | decide | exact Nat.le_of_ble_eq_true rfl), (by first | decide | exact Nat.le_of_ble_eq_true rfl), rfl⟩ (calI.mono h241 fun v243 s242 h244 => ?_)
  refine wpc_sl (n := 9) (c' := 16) (pc' := 198) (ls' := [some (.ref 0), some (.int a1), some (.int a2), some (.int a3), some (.int (0 : Int32))]) (st' := []) (s' := (sI (sI (sI s242 0 30 v243) 0 31 (0 : Int32)) 0 40 (0 : Int32))) rfl ?_
  exact wpc_lle (ls := [some (.ref 0), none, none, none, some (.int (0 : Int32))]) ⟨rfl, rfl, trivial⟩ h244
theorem c0_198 (x4 : Int32) (s : St) (Q : St → Prop) (h : ((x4 < (4 : Int32)) → calV PP 39 16 [.ref 0, .int x4] s (fun s248 => wpcV PP 0 cm0 16 198 [some (.ref 0), none, none, none, some (.int (x4 + (1 : Int32)))] [] s248 Q)) ∧ (¬ (x4 < (4 : Int32)) → Q s)) : wpcV PP 0 cm0 16 198 [some (.ref 0), none, none, none, some (.int x4)] [] s Q := by
  refine wpc_sl (n := 2) (c' := 16) (pc' := 201) (ls' := [some (.ref 0), none, none, none, some (.int x4)]) (st' := [.int (4 : Int32), .int x4]) (s' := s) rfl ?_
  refine wpc_icmp (a := 216) (b := 204) rfl (by decide) rfl rfl (wpc_br (p := x4 < (4 : Int32)) ⟨fun hc245 => ?_, fun hc245 => ?_⟩)
  · have h246 := h.1 hc245
    refine wpc_sl (n := 2) (c' := 16) (pc' := 207) (ls' := [some (.ref 0), none, none, none, some (.int x4)]) (st' := [.int x4, .ref 0]) (s' := s) rfl ?_
    refine wpc_callV (m' := 39) (me' := cm39) (as := [.int x4]) (r := []) rfl rfl rfl rfl rfl ⟨by decide, (by first | decide | exact Nat.le_of_ble_eq_true rfl), (by first | decide | exact Nat.le_of_ble_eq_true rfl), rfl⟩ (calV.mono h246 fun s248 h250 => ?_)
    refine wpc_sl (n := 2) (c' := 16) (pc' := 198) (ls' := [some (.ref 0), none, none, none, some (.int (x4 + (1 : Int32)))]) (st' := []) (s' := s248) rfl ?_
    exact h250
  · have h247 := h.2 hc245
    exact wpc_ret rfl rfl (fun _ => rfl) rfl ⟨rfl, h247⟩
theorem c25_in (a1 : Int32) (s : St) (Q : Int32 → St → Prop) (h : ((a1 < (0 : Int32)) → Q (0 : Int32) s) ∧ (¬ (a1 < (0 : Int32)) → ((a1 < (gI s 0 40)) → Q (1 : Int32) s) ∧ (¬ (a1 < (gI s 0 40)) → Q (0 : Int32) s))) : calI PP 25 16 [.ref 0, .int a1] s Q := by
  refine cal_of (me := cm25) (ls := [some (.ref 0), some (.int a1)]) rfl (Nat.le_of_ble_eq_true rfl) rfl ?_
  refine wpc_sl (n := 1) (c' := 16) (pc' := 1) (ls' := [some (.ref 0), some (.int a1)]) (st' := [.int a1]) (s' := s) rfl ?_
  refine wpc_if (a := 16) (b := 4) rfl (by decide) rfl rfl (wpc_br (p := a1 < (0 : Int32)) ⟨fun hc273 => ?_, fun hc273 => ?_⟩)
  · have h274 := h.1 hc273
    refine wpc_sl (n := 1) (c' := 16) (pc' := 17) (ls' := [some (.ref 0), some (.int a1)]) (st' := [.int (0 : Int32)]) (s' := s) rfl ?_
    exact wpc_ret rfl rfl (fun q => absurd q (by decide)) rfl ⟨(0 : Int32), rfl, h274⟩
  · have h275 := h.2 hc273
    refine wpc_sl (n := 3) (c' := 16) (pc' := 9) (ls' := [some (.ref 0), some (.int a1)]) (st' := [.int (gI s 0 40), .int a1]) (s' := s) rfl ?_
    refine wpc_icmp (a := 16) (b := 12) rfl (by decide) rfl rfl (wpc_br (p := a1 < (gI s 0 40)) ⟨fun hc276 => ?_, fun hc276 => ?_⟩)
    · have h277 := h275.1 hc276
      refine wpc_sl (n := 2) (c' := 16) (pc' := 17) (ls' := [some (.ref 0), some (.int a1)]) (st' := [.int (1 : Int32)]) (s' := s) rfl ?_
      exact wpc_ret rfl rfl (fun q => absurd q (by decide)) rfl ⟨(1 : Int32), rfl, h277⟩
    · have h278 := h275.2 hc276
      refine wpc_sl (n := 1) (c' := 16) (pc' := 17) (ls' := [some (.ref 0), some (.int a1)]) (st' := [.int (0 : Int32)]) (s' := s) rfl ?_
      exact wpc_ret rfl rfl (fun q => absurd q (by decide)) rfl ⟨(0 : Int32), rfl, h278⟩
theorem c15_in (a1 : Int32) (s : St) (Q : Int32 → St → Prop) (h : calI PP 25 16 [.ref 0, .int a1] s (fun v267 s266 => ((v267 = (0 : Int32)) → Q (-1 : Int32) s266) ∧ (¬ (v267 = (0 : Int32)) → inb 32 a1 ∧ Q (gI s266 9 (ix a1)) s266))) : calI PP 15 16 [.ref 0, .int a1] s Q := by
  refine cal_of (me := cm15) (ls := [some (.ref 0), some (.int a1)]) rfl (Nat.le_of_ble_eq_true rfl) rfl ?_
  refine wpc_sl (n := 2) (c' := 16) (pc' := 2) (ls' := [some (.ref 0), some (.int a1)]) (st' := [.int a1, .ref 0]) (s' := s) rfl ?_
  refine wpc_callI (m' := 25) (me' := cm25) (as := [.int a1]) (r := []) rfl rfl rfl rfl rfl ⟨by decide, (by first | decide | exact Nat.le_of_ble_eq_true rfl), (by first | decide | exact Nat.le_of_ble_eq_true rfl), rfl⟩ (calI.mono h fun v267 s266 h268 => ?_)
  refine wpc_if (a := 10) (b := 8) rfl (by decide) rfl rfl (wpc_br (p := v267 = (0 : Int32)) ⟨fun hc269 => ?_, fun hc269 => ?_⟩)
  · have h270 := h268.1 hc269
    refine wpc_sl (n := 1) (c' := 16) (pc' := 9) (ls' := [some (.ref 0), some (.int a1)]) (st' := [.int (-1 : Int32)]) (s' := s266) rfl ?_
    exact wpc_ret rfl rfl (fun q => absurd q (by decide)) rfl ⟨(-1 : Int32), rfl, h270⟩
  · have h271 := h268.2 hc269
    refine wpc_sl (n := 3) (c' := 16) (pc' := 15) (ls' := [some (.ref 0), some (.int a1)]) (st' := [.int a1, .ref 9]) (s' := s266) rfl ?_
    refine wpc_ldaI (a := 8) (N := 32) (v := (gI s266 9 (ix a1))) rfl rfl (by decide) h271.1 rfl ?_
    have h272 := h271.2
    exact wpc_ret rfl rfl (fun q => absurd q (by decide)) rfl ⟨(gI s266 9 (ix a1)), rfl, h272⟩
theorem c22_in (a1 : Int32) (s : St) (Q : Int32 → St → Prop) (h : ((a1 < (0 : Int32)) → Q (0 : Int32) s) ∧ (¬ (a1 < (0 : Int32)) → ((a1 < (4 : Int32)) → Q (1 : Int32) s) ∧ (¬ (a1 < (4 : Int32)) → Q (0 : Int32) s))) : calI PP 22 16 [.ref 0, .int a1] s Q := by
  refine cal_of (me := cm22) (ls := [some (.ref 0), some (.int a1)]) rfl (Nat.le_of_ble_eq_true rfl) rfl ?_
  refine wpc_sl (n := 1) (c' := 16) (pc' := 1) (ls' := [some (.ref 0), some (.int a1)]) (st' := [.int a1]) (s' := s) rfl ?_
  refine wpc_if (a := 13) (b := 4) rfl (by decide) rfl rfl (wpc_br (p := a1 < (0 : Int32)) ⟨fun hc298 => ?_, fun hc298 => ?_⟩)
  · have h299 := h.1 hc298
    refine wpc_sl (n := 1) (c' := 16) (pc' := 14) (ls' := [some (.ref 0), some (.int a1)]) (st' := [.int (0 : Int32)]) (s' := s) rfl ?_
    exact wpc_ret rfl rfl (fun q => absurd q (by decide)) rfl ⟨(0 : Int32), rfl, h299⟩
  · have h300 := h.2 hc298
    refine wpc_sl (n := 2) (c' := 16) (pc' := 6) (ls' := [some (.ref 0), some (.int a1)]) (st' := [.int (4 : Int32), .int a1]) (s' := s) rfl ?_
    refine wpc_icmp (a := 13) (b := 9) rfl (by decide) rfl rfl (wpc_br (p := a1 < (4 : Int32)) ⟨fun hc301 => ?_, fun hc301 => ?_⟩)
    · have h302 := h300.1 hc301
      refine wpc_sl (n := 2) (c' := 16) (pc' := 14) (ls' := [some (.ref 0), some (.int a1)]) (st' := [.int (1 : Int32)]) (s' := s) rfl ?_
      exact wpc_ret rfl rfl (fun q => absurd q (by decide)) rfl ⟨(1 : Int32), rfl, h302⟩
    · have h303 := h300.2 hc301
      refine wpc_sl (n := 1) (c' := 16) (pc' := 14) (ls' := [some (.ref 0), some (.int a1)]) (st' := [.int (0 : Int32)]) (s' := s) rfl ?_
      exact wpc_ret rfl rfl (fun q => absurd q (by decide)) rfl ⟨(0 : Int32), rfl, h303⟩
theorem c33_in (a1 : Int32) (s : St) (Q : St → Prop) (h : calI PP 25 16 [.ref 0, .int a1] s (fun v305 s304 => ((v305 = (0 : Int32)) → Q s304) ∧ (¬ (v305 = (0 : Int32)) → wpcV PP 33 cm33 16 18 [some (.ref 0), none, some (.int ((gI s304 0 40) - (1 : Int32))), some (.int a1)] [] s304 Q))) : calV PP 33 16 [.ref 0, .int a1] s Q := by
  refine cal_of (me := cm33) (ls := [some (.ref 0), some (.int a1), none, none]) rfl (Nat.le_of_ble_eq_true rfl) rfl ?_
  refine wpc_sl (n := 2) (c' := 16) (pc' := 2) (ls' := [some (.ref 0), some (.int a1), none, none]) (st' := [.int a1, .ref 0]) (s' := s) rfl ?_
  refine wpc_callI (m' := 25) (me' := cm25) (as := [.int a1]) (r := []) rfl rfl rfl rfl rfl ⟨by decide, (by first | decide | exact Nat.le_of_ble_eq_true rfl), (by first | decide | exact Nat.le_of_ble_eq_true rfl), rfl⟩ (calI.mono h fun v305 s304 h306 => ?_)
  refine wpc_if (a := 9) (b := 8) rfl (by decide) rfl rfl (wpc_br (p := v305 = (0 : Int32)) ⟨fun hc307 => ?_, fun hc307 => ?_⟩)
  · have h308 := h306.1 hc307
    exact wpc_ret rfl rfl (fun q => absurd q (by decide)) rfl ⟨rfl, h308⟩
  · have h309 := h306.2 hc307
    refine wpc_sl (n := 7) (c' := 16) (pc' := 18) (ls' := [some (.ref 0), some (.int a1), some (.int ((gI s304 0 40) - (1 : Int32))), some (.int a1)]) (st' := []) (s' := s304) rfl ?_
    exact wpc_lle (ls := [some (.ref 0), none, some (.int ((gI s304 0 40) - (1 : Int32))), some (.int a1)]) ⟨rfl, rfl, rfl, trivial⟩ h309
theorem c33_18 (x2 : Int32) (x3 : Int32) (s : St) (Q : St → Prop) (h : ((x3 < x2) → inb 32 (x3 + (1 : Int32)) ∧ inb 32 x3 ∧ wpcV PP 33 cm33 16 18 [some (.ref 0), none, some (.int x2), some (.int (x3 + (1 : Int32)))] [] (sI s 9 (ix x3) (gI s 9 (ix (x3 + (1 : Int32))))) Q) ∧ (¬ (x3 < x2) → inb 32 x2 ∧ Q (sI (sI s 9 (ix x2) (0 : Int32)) 0 40 x2))) : wpcV PP 33 cm33 16 18 [some (.ref 0), none, some (.int x2), some (.int x3)] [] s Q := by
  refine wpc_sl (n := 2) (c' := 16) (pc' := 20) (ls' := [some (.ref 0), none, some (.int x2), some (.int x3)]) (st' := [.int x2, .int x3]) (s' := s) rfl ?_
  refine wpc_icmp (a := 43) (b := 23) rfl (by decide) rfl rfl (wpc_br (p := x3 < x2) ⟨fun hc310 => ?_, fun hc310 => ?_⟩)
  · have h311 := h.1 hc310
    refine wpc_sl (n := 8) (c' := 16) (pc' := 35) (ls' := [some (.ref 0), none, some (.int x2), some (.int x3)]) (st' := [.int (x3 + (1 : Int32)), .ref 9, .int x3, .ref 9]) (s' := s) rfl ?_
    refine wpc_ldaI (a := 8) (N := 32) (v := (gI s 9 (ix (x3 + (1 : Int32))))) rfl rfl (by decide) h311.1 rfl ?_
    have h313 := h311.2
    refine wpc_staI (a := 8) (N := 32) (s' := (sI s 9 (ix x3) (gI s 9 (ix (x3 + (1 : Int32)))))) rfl rfl (by decide) h313.1 rfl ?_
    have h314 := h313.2
    refine wpc_sl (n := 2) (c' := 16) (pc' := 18) (ls' := [some (.ref 0), none, some (.int x2), some (.int (x3 + (1 : Int32)))]) (st' := []) (s' := (sI s 9 (ix x3) (gI s 9 (ix (x3 + (1 : Int32)))))) rfl ?_
    exact h314
  · have h312 := h.2 hc310
    refine wpc_sl (n := 4) (c' := 16) (pc' := 49) (ls' := [some (.ref 0), none, some (.int x2), some (.int x3)]) (st' := [.int (0 : Int32), .int x2, .ref 9]) (s' := s) rfl ?_
    refine wpc_staI (a := 8) (N := 32) (s' := (sI s 9 (ix x2) (0 : Int32))) rfl rfl (by decide) h312.1 rfl ?_
    have h315 := h312.2
    refine wpc_sl (n := 3) (c' := 16) (pc' := 55) (ls' := [some (.ref 0), none, some (.int x2), some (.int x3)]) (st' := []) (s' := (sI (sI s 9 (ix x2) (0 : Int32)) 0 40 x2)) rfl ?_
    exact wpc_ret rfl rfl (fun q => absurd q (by decide)) rfl ⟨rfl, h315⟩
theorem c24_in (a1 : Int32) (s : St) (Q : Int32 → St → Prop) (h : ((a1 < (0 : Int32)) → Q (0 : Int32) s) ∧ (¬ (a1 < (0 : Int32)) → ((a1 < (gI s 0 31)) → Q (1 : Int32) s) ∧ (¬ (a1 < (gI s 0 31)) → Q (0 : Int32) s))) : calI PP 24 16 [.ref 0, .int a1] s Q := by
  refine cal_of (me := cm24) (ls := [some (.ref 0), some (.int a1)]) rfl (Nat.le_of_ble_eq_true rfl) rfl ?_
  refine wpc_sl (n := 1) (c' := 16) (pc' := 1) (ls' := [some (.ref 0), some (.int a1)]) (st' := [.int a1]) (s' := s) rfl ?_
  refine wpc_if (a := 16) (b := 4) rfl (by decide) rfl rfl (wpc_br (p := a1 < (0 : Int32)) ⟨fun hc356 => ?_, fun hc356 => ?_⟩)
  · have h357 := h.1 hc356
    refine wpc_sl (n := 1) (c' := 16) (pc' := 17) (ls' := [some (.ref 0), some (.int a1)]) (st' := [.int (0 : Int32)]) (s' := s) rfl ?_
    exact wpc_ret rfl rfl (fun q => absurd q (by decide)) rfl ⟨(0 : Int32), rfl, h357⟩
  · have h358 := h.2 hc356
    refine wpc_sl (n := 3) (c' := 16) (pc' := 9) (ls' := [some (.ref 0), some (.int a1)]) (st' := [.int (gI s 0 31), .int a1]) (s' := s) rfl ?_
    refine wpc_icmp (a := 16) (b := 12) rfl (by decide) rfl rfl (wpc_br (p := a1 < (gI s 0 31)) ⟨fun hc359 => ?_, fun hc359 => ?_⟩)
    · have h360 := h358.1 hc359
      refine wpc_sl (n := 2) (c' := 16) (pc' := 17) (ls' := [some (.ref 0), some (.int a1)]) (st' := [.int (1 : Int32)]) (s' := s) rfl ?_
      exact wpc_ret rfl rfl (fun q => absurd q (by decide)) rfl ⟨(1 : Int32), rfl, h360⟩
    · have h361 := h358.2 hc359
      refine wpc_sl (n := 1) (c' := 16) (pc' := 17) (ls' := [some (.ref 0), some (.int a1)]) (st' := [.int (0 : Int32)]) (s' := s) rfl ?_
      exact wpc_ret rfl rfl (fun q => absurd q (by decide)) rfl ⟨(0 : Int32), rfl, h361⟩
theorem c47_in (a1 : Int32) (a2 : Int32) (s : St) (Q : Int32 → St → Prop) (h : Q ((a1 * (64 : Int32)) + a2) s) : calI PP 47 16 [.ref 0, .int a1, .int a2] s Q := by
  refine cal_of (me := cm47) (ls := [some (.ref 0), some (.int a1), some (.int a2)]) rfl (Nat.le_of_ble_eq_true rfl) rfl ?_
  refine wpc_sl (n := 5) (c' := 16) (pc' := 6) (ls' := [some (.ref 0), some (.int a1), some (.int a2)]) (st' := [.int ((a1 * (64 : Int32)) + a2)]) (s' := s) rfl ?_
  exact wpc_ret rfl rfl (fun q => absurd q (by decide)) rfl ⟨((a1 * (64 : Int32)) + a2), rfl, h⟩
theorem c50_in (a1 : Int32) (a2 : Int32) (a3 : Int32) (s : St) (Q : Int32 → St → Prop) (h : Q ((((a1 * (64 : Int32)) + a2) * (4 : Int32)) + a3) s) : calI PP 50 16 [.ref 0, .int a1, .int a2, .int a3] s Q := by
  refine cal_of (me := cm50) (ls := [some (.ref 0), some (.int a1), some (.int a2), some (.int a3)]) rfl (Nat.le_of_ble_eq_true rfl) rfl ?_
  refine wpc_sl (n := 9) (c' := 16) (pc' := 10) (ls' := [some (.ref 0), some (.int a1), some (.int a2), some (.int a3)]) (st' := [.int ((((a1 * (64 : Int32)) + a2) * (4 : Int32)) + a3)]) (s' := s) rfl ?_
  exact wpc_ret rfl rfl (fun q => absurd q (by decide)) rfl ⟨((((a1 * (64 : Int32)) + a2) * (4 : Int32)) + a3), rfl, h⟩
theorem c31_in (a1 : Int32) (a2 : Int32) (s : St) (Q : Int32 → St → Prop) (h : inb 64 a1 ∧ inb 64 a2 ∧ (((gI s 3 (ix a1)) = (gI s 3 (ix a2))) → inb 64 a1 ∧ inb 64 a2 ∧ (((gI s 2 (ix a2)) < (gI s 2 (ix a1))) → Q (1 : Int32) s) ∧ (¬ ((gI s 2 (ix a2)) < (gI s 2 (ix a1))) → Q (0 : Int32) s)) ∧ (¬ ((gI s 3 (ix a1)) = (gI s 3 (ix a2))) → inb 64 a1 ∧ inb 64 a2 ∧ (((gI s 3 (ix a2)) < (gI s 3 (ix a1))) → Q (1 : Int32) s) ∧ (¬ ((gI s 3 (ix a2)) < (gI s 3 (ix a1))) → Q (0 : Int32) s))) : calI PP 31 16 [.ref 0, .int a1, .int a2] s Q := by
  refine cal_of (me := cm31) (ls := [some (.ref 0), some (.int a1), some (.int a2)]) rfl (Nat.le_of_ble_eq_true rfl) rfl ?_
  refine wpc_sl (n := 3) (c' := 16) (pc' := 5) (ls' := [some (.ref 0), some (.int a1), some (.int a2)]) (st' := [.int a1, .ref 3]) (s' := s) rfl ?_
  refine wpc_ldaI (a := 2) (N := 64) (v := (gI s 3 (ix a1))) rfl rfl (by decide) h.1 rfl ?_
  have h402 := h.2
  refine wpc_sl (n := 3) (c' := 16) (pc' := 11) (ls' := [some (.ref 0), some (.int a1), some (.int a2)]) (st' := [.int a2, .ref 3, .int (gI s 3 (ix a1))]) (s' := s) rfl ?_
  refine wpc_ldaI (a := 2) (N := 64) (v := (gI s 3 (ix a2))) rfl rfl (by decide) h402.1 rfl ?_
  have h403 := h402.2
  refine wpc_icmp (a := 36) (b := 15) rfl (by decide) rfl rfl (wpc_br (p := (gI s 3 (ix a1)) = (gI s 3 (ix a2))) ⟨fun hc404 => ?_, fun hc404 => ?_⟩)
  · have h405 := h403.1 hc404
    refine wpc_sl (n := 3) (c' := 16) (pc' := 41) (ls' := [some (.ref 0), some (.int a1), some (.int a2)]) (st' := [.int a1, .ref 2]) (s' := s) rfl ?_
    refine wpc_ldaI (a := 1) (N := 64) (v := (gI s 2 (ix a1))) rfl rfl (by decide) h405.1 rfl ?_
    have h407 := h405.2
    refine wpc_sl (n := 3) (c' := 16) (pc' := 47) (ls' := [some (.ref 0), some (.int a1), some (.int a2)]) (st' := [.int a2, .ref 2, .int (gI s 2 (ix a1))]) (s' := s) rfl ?_
    refine wpc_ldaI (a := 1) (N := 64) (v := (gI s 2 (ix a2))) rfl rfl (by decide) h407.1 rfl ?_
    have h408 := h407.2
    refine wpc_icmp (a := 55) (b := 51) rfl (by decide) rfl rfl (wpc_br (p := (gI s 2 (ix a2)) < (gI s 2 (ix a1))) ⟨fun hc409 => ?_, fun hc409 => ?_⟩)
    · have h410 := h408.1 hc409
      refine wpc_sl (n := 2) (c' := 16) (pc' := 56) (ls' := [some (.ref 0), some (.int a1), some (.int a2)]) (st' := [.int (1 : Int32)]) (s' := s) rfl ?_
      exact wpc_ret rfl rfl (fun q => absurd q (by decide)) rfl ⟨(1 : Int32), rfl, h410⟩
    · have h411 := h408.2 hc409
      refine wpc_sl (n := 1) (c' := 16) (pc' := 56) (ls' := [some (.ref 0), some (.int a1), some (.int a2)]) (st' := [.int (0 : Int32)]) (s' := s) rfl ?_
      exact wpc_ret rfl rfl (fun q => absurd q (by decide)) rfl ⟨(0 : Int32), rfl, h411⟩
  · have h406 := h403.2 hc404
    refine wpc_sl (n := 3) (c' := 16) (pc' := 20) (ls' := [some (.ref 0), some (.int a1), some (.int a2)]) (st' := [.int a1, .ref 3]) (s' := s) rfl ?_
    refine wpc_ldaI (a := 2) (N := 64) (v := (gI s 3 (ix a1))) rfl rfl (by decide) h406.1 rfl ?_
    have h412 := h406.2
    refine wpc_sl (n := 3) (c' := 16) (pc' := 26) (ls' := [some (.ref 0), some (.int a1), some (.int a2)]) (st' := [.int a2, .ref 3, .int (gI s 3 (ix a1))]) (s' := s) rfl ?_
    refine wpc_ldaI (a := 2) (N := 64) (v := (gI s 3 (ix a2))) rfl rfl (by decide) h412.1 rfl ?_
    have h413 := h412.2
    refine wpc_icmp (a := 34) (b := 30) rfl (by decide) rfl rfl (wpc_br (p := (gI s 3 (ix a2)) < (gI s 3 (ix a1))) ⟨fun hc414 => ?_, fun hc414 => ?_⟩)
    · have h415 := h413.1 hc414
      refine wpc_sl (n := 2) (c' := 16) (pc' := 35) (ls' := [some (.ref 0), some (.int a1), some (.int a2)]) (st' := [.int (1 : Int32)]) (s' := s) rfl ?_
      exact wpc_ret rfl rfl (fun q => absurd q (by decide)) rfl ⟨(1 : Int32), rfl, h415⟩
    · have h416 := h413.2 hc414
      refine wpc_sl (n := 1) (c' := 16) (pc' := 35) (ls' := [some (.ref 0), some (.int a1), some (.int a2)]) (st' := [.int (0 : Int32)]) (s' := s) rfl ?_
      exact wpc_ret rfl rfl (fun q => absurd q (by decide)) rfl ⟨(0 : Int32), rfl, h416⟩
theorem c37_in (a1 : Int32) (a2 : Int32) (a3 : Int32) (s : St) (Q : St → Prop) (h : inb 64 a3 ∧ (((gI s 4 (ix a3)) < (0 : Int32)) → Q s) ∧ (¬ ((gI s 4 (ix a3)) < (0 : Int32)) → (((gI s 4 (ix a3)) < (4 : Int32)) → calI PP 50 16 [.ref 0, .int a1, .int a2, .int (gI s 4 (ix a3))] s (fun v389 s388 => inb 1024 v389 ∧ ((((gI s388 16 (ix v389)) - (1 : Int32)) < (0 : Int32)) → wpcV PP 37 cm37 16 56 [some (.ref 0), none, none, some (.int a3), none, some (.int v389), none] [] s388 Q) ∧ (¬ (((gI s388 16 (ix v389)) - (1 : Int32)) < (0 : Int32)) → calI PP 31 16 [.ref 0, .int a3, .int ((gI s388 16 (ix v389)) - (1 : Int32))] s388 (fun v396 s395 => ((v396 = (0 : Int32)) → Q s395) ∧ (¬ (v396 = (0 : Int32)) → wpcV PP 37 cm37 16 56 [some (.ref 0), none, none, some (.int a3), none, some (.int v389), none] [] s395 Q))))) ∧ (¬ ((gI s 4 (ix a3)) < (4 : Int32)) → Q s))) : calV PP 37 16 [.ref 0, .int a1, .int a2, .int a3] s Q := by
  refine cal_of (me := cm37) (ls := [some (.ref 0), some (.int a1), some (.int a2), some (.int a3), none, none, none]) rfl (Nat.le_of_ble_eq_true rfl) rfl ?_
  refine wpc_sl (n := 3) (c' := 16) (pc' := 5) (ls' := [some (.ref 0), some (.int a1), some (.int a2), some (.int a3), none, none, none]) (st' := [.int a3, .ref 4]) (s' := s) rfl ?_
  refine wpc_ldaI (a := 3) (N := 64) (v := (gI s 4 (ix a3))) rfl rfl (by decide) h.1 rfl ?_
  have h381 := h.2
  refine wpc_sl (n := 2) (c' := 16) (pc' := 10) (ls' := [some (.ref 0), some (.int a1), some (.int a2), some (.int a3), some (.int (gI s 4 (ix a3))), none, none]) (st' := [.int (gI s 4 (ix a3))]) (s' := s) rfl ?_
  refine wpc_if (a := 19) (b := 13) rfl (by decide) rfl rfl (wpc_br (p := (gI s 4 (ix a3)) < (0 : Int32)) ⟨fun hc382 => ?_, fun hc382 => ?_⟩)
  · have h383 := h381.1 hc382
    exact wpc_ret rfl rfl (fun q => absurd q (by decide)) rfl ⟨rfl, h383⟩
  · have h384 := h381.2 hc382
    refine wpc_sl (n := 2) (c' := 16) (pc' := 16) (ls' := [some (.ref 0), some (.int a1), some (.int a2), some (.int a3), some (.int (gI s 4 (ix a3))), none, none]) (st' := [.int (4 : Int32), .int (gI s 4 (ix a3))]) (s' := s) rfl ?_
    refine wpc_icmp (a := 20) (b := 19) rfl (by decide) rfl rfl (wpc_br (p := (gI s 4 (ix a3)) < (4 : Int32)) ⟨fun hc385 => ?_, fun hc385 => ?_⟩)
    · have h386 := h384.1 hc385
      refine wpc_sl (n := 4) (c' := 16) (pc' := 25) (ls' := [some (.ref 0), some (.int a1), some (.int a2), some (.int a3), some (.int (gI s 4 (ix a3))), none, none]) (st' := [.int (gI s 4 (ix a3)), .int a2, .int a1, .ref 0]) (s' := s) rfl ?_
      refine wpc_callI (m' := 50) (me' := cm50) (as := [.int a1, .int a2, .int (gI s 4 (ix a3))]) (r := []) rfl rfl rfl rfl rfl ⟨by decide, (by first | decide | exact Nat.le_of_ble_eq_true rfl), (by first | decide | exact Nat.le_of_ble_eq_true rfl), rfl⟩ (calI.mono h386 fun v389 s388 h390 => ?_)
      refine wpc_sl (n := 4) (c' := 16) (pc' := 36) (ls' := [some (.ref 0), some (.int a1), some (.int a2), some (.int a3), some (.int (gI s 4 (ix a3))), some (.int v389), none]) (st' := [.int v389, .ref 16]) (s' := s388) rfl ?_
      refine wpc_ldaI (a := 15) (N := 1024) (v := (gI s388 16 (ix v389))) rfl rfl (by decide) h390.1 rfl ?_
      have h391 := h390.2
      refine wpc_sl (n := 4) (c' := 16) (pc' := 43) (ls' := [some (.ref 0), some (.int a1), some (.int a2), some (.int a3), some (.int (gI s 4 (ix a3))), some (.int v389), some (.int ((gI s388 16 (ix v389)) - (1 : Int32)))]) (st' := [.int ((gI s388 16 (ix v389)) - (1 : Int32))]) (s' := s388) rfl ?_
      refine wpc_if (a := 56) (b := 46) rfl (by decide) rfl rfl (wpc_br (p := ((gI s388 16 (ix v389)) - (1 : Int32)) < (0 : Int32)) ⟨fun hc392 => ?_, fun hc392 => ?_⟩)
      · have h393 := h391.1 hc392
        exact wpc_lle (ls := [some (.ref 0), none, none, some (.int a3), none, some (.int v389), none]) ⟨rfl, rfl, rfl, trivial⟩ h393
      · have h394 := h391.2 hc392
        refine wpc_sl (n := 3) (c' := 16) (pc' := 50) (ls' := [some (.ref 0), some (.int a1), some (.int a2), some (.int a3), some (.int (gI s 4 (ix a3))), some (.int v389), some (.int ((gI s388 16 (ix v389)) - (1 : Int32)))]) (st' := [.int ((gI s388 16 (ix v389)) - (1 : Int32)), .int a3, .ref 0]) (s' := s388) rfl ?_
        refine wpc_callI (m' := 31) (me' := cm31) (as := [.int a3, .int ((gI s388 16 (ix v389)) - (1 : Int32))]) (r := []) rfl rfl rfl rfl rfl ⟨by decide, (by first | decide | exact Nat.le_of_ble_eq_true rfl), (by first | decide | exact Nat.le_of_ble_eq_true rfl), rfl⟩ (calI.mono h394 fun v396 s395 h397 => ?_)
        refine wpc_if (a := 66) (b := 56) rfl (by decide) rfl rfl (wpc_br (p := v396 = (0 : Int32)) ⟨fun hc398 => ?_, fun hc398 => ?_⟩)
        · have h399 := h397.1 hc398
          exact wpc_ret rfl rfl (fun q => absurd q (by decide)) rfl ⟨rfl, h399⟩
        · have h400 := h397.2 hc398
          exact wpc_lle (ls := [some (.ref 0), none, none, some (.int a3), none, some (.int v389), none]) ⟨rfl, rfl, rfl, trivial⟩ h400
    · have h387 := h384.2 hc385
      exact wpc_ret rfl rfl (fun q => absurd q (by decide)) rfl ⟨rfl, h387⟩
theorem c37_56 (x3 : Int32) (x5 : Int32) (s : St) (Q : St → Prop) (h : inb 1024 x5 ∧ Q (sI s 16 (ix x5) (x3 + (1 : Int32)))) : wpcV PP 37 cm37 16 56 [some (.ref 0), none, none, some (.int x3), none, some (.int x5), none] [] s Q := by
  refine wpc_sl (n := 6) (c' := 16) (pc' := 65) (ls' := [some (.ref 0), none, none, some (.int x3), none, some (.int x5), none]) (st' := [.int (x3 + (1 : Int32)), .int x5, .ref 16]) (s' := s) rfl ?_
  refine wpc_staI (a := 15) (N := 1024) (s' := (sI s 16 (ix x5) (x3 + (1 : Int32)))) rfl rfl (by decide) h.1 rfl ?_
  have h401 := h.2
  exact wpc_ret rfl rfl (fun q => absurd q (by decide)) rfl ⟨rfl, h401⟩
theorem c36_in (a1 : Int32) (a2 : Int32) (s : St) (Q : St → Prop) (h : inb 64 a2 ∧ ∀ m363, m363 = (if ((gI s 5 (ix a2)) / (3 : Int32)) < (0 : Int32) then (0 : Int32) else ((gI s 5 (ix a2)) / (3 : Int32))) → (wpcV PP 36 cm36 16 18 [some (.ref 0), some (.int a1), some (.int a2), none, some (.int m363), none] [] s Q)) : calV PP 36 16 [.ref 0, .int a1, .int a2] s Q := by
  refine cal_of (me := cm36) (ls := [some (.ref 0), some (.int a1), some (.int a2), none, none, none]) rfl (Nat.le_of_ble_eq_true rfl) rfl ?_
  refine wpc_sl (n := 3) (c' := 16) (pc' := 5) (ls' := [some (.ref 0), some (.int a1), some (.int a2), none, none, none]) (st' := [.int a2, .ref 5]) (s' := s) rfl ?_
  refine wpc_ldaI (a := 4) (N := 64) (v := (gI s 5 (ix a2))) rfl rfl (by decide) h.1 rfl ?_
  have h362 := h.2
  refine wpc_sl (n := 4) (c' := 16) (pc' := 10) (ls' := [some (.ref 0), some (.int a1), some (.int a2), some (.int ((gI s 5 (ix a2)) / (3 : Int32))), none, none]) (st' := [.int ((gI s 5 (ix a2)) / (3 : Int32))]) (s' := s) rfl ?_
  have hm364 : ∀ m363, m363 = (if ((gI s 5 (ix a2)) / (3 : Int32)) < (0 : Int32) then (0 : Int32) else ((gI s 5 (ix a2)) / (3 : Int32))) → wpcV PP 36 cm36 16 15 [some (.ref 0), some (.int a1), some (.int a2), some (.int m363), none, none] [] s Q := by
    intro m363 em363
    have h365 := h362 m363 em363
    refine wpc_sl (n := 2) (c' := 16) (pc' := 18) (ls' := [some (.ref 0), some (.int a1), some (.int a2), some (.int m363), some (.int m363), none]) (st' := []) (s' := s) rfl ?_
    exact wpc_lle (ls := [some (.ref 0), some (.int a1), some (.int a2), none, some (.int m363), none]) ⟨rfl, rfl, rfl, rfl, trivial⟩ h365
  refine wpc_if (a := 15) (b := 13) rfl (by decide) rfl rfl (wpc_br (p := ((gI s 5 (ix a2)) / (3 : Int32)) < (0 : Int32)) ⟨fun hc366 => ?_, fun hc366 => ?_⟩)
  · refine wpc_sl (n := 2) (c' := 16) (pc' := 15) (ls' := [some (.ref 0), some (.int a1), some (.int a2), some (.int (0 : Int32)), none, none]) (st' := []) (s' := s) rfl ?_
    first | exact hm364 _ (by simp only [if_pos hc366]) | exact wpc_lle (by repeat (first | exact trivial | refine ⟨rfl, ?_⟩)) (hm364 _ (by simp only [if_pos hc366]))
  · first | exact hm364 _ (by simp only [if_neg hc366]) | exact wpc_lle (by repeat (first | exact trivial | refine ⟨rfl, ?_⟩)) (hm364 _ (by simp only [if_neg hc366]))
theorem c36_18 (x1 : Int32) (x2 : Int32) (x4 : Int32) (s : St) (Q : St → Prop) (h : ((x4 < (gI s 0 28)) → inb 64 x2 ∧ (((((3 : Int32) * x4) + (1 : Int32)) < (gI s 6 (ix x2))) → inb 64 x2 ∧ (((gI s 5 (ix x2)) < (((3 : Int32) * x4) + (1 : Int32))) → calV PP 37 16 [.ref 0, .int x1, .int x4, .int x2] s (fun s378 => wpcV PP 36 cm36 16 68 [some (.ref 0), some (.int x1), some (.int x2), none, some (.int x4), none] [] s378 Q)) ∧ (¬ ((gI s 5 (ix x2)) < (((3 : Int32) * x4) + (1 : Int32))) → wpcV PP 36 cm36 16 68 [some (.ref 0), some (.int x1), some (.int x2), none, some (.int x4), none] [] s Q)) ∧ (¬ ((((3 : Int32) * x4) + (1 : Int32)) < (gI s 6 (ix x2))) → Q s)) ∧ (¬ (x4 < (gI s 0 28)) → Q s)) : wpcV PP 36 cm36 16 18 [some (.ref 0), some (.int x1), some (.int x2), none, some (.int x4), none] [] s Q := by
  refine wpc_sl (n := 3) (c' := 16) (pc' := 24) (ls' := [some (.ref 0), some (.int x1), some (.int x2), none, some (.int x4), none]) (st' := [.int (gI s 0 28), .int x4]) (s' := s) rfl ?_
  refine wpc_icmp (a := 74) (b := 27) rfl (by decide) rfl rfl (wpc_br (p := x4 < (gI s 0 28)) ⟨fun hc367 => ?_, fun hc367 => ?_⟩)
  · have h368 := h.1 hc367
    refine wpc_sl (n := 10) (c' := 16) (pc' := 42) (ls' := [some (.ref 0), some (.int x1), some (.int x2), none, some (.int x4), some (.int (((3 : Int32) * x4) + (1 : Int32)))]) (st' := [.int x2, .ref 6, .int (((3 : Int32) * x4) + (1 : Int32))]) (s' := s) rfl ?_
    refine wpc_ldaI (a := 5) (N := 64) (v := (gI s 6 (ix x2))) rfl rfl (by decide) h368.1 rfl ?_
    have h370 := h368.2
    refine wpc_icmp (a := 49) (b := 46) rfl (by decide) rfl rfl (wpc_br (p := (((3 : Int32) * x4) + (1 : Int32)) < (gI s 6 (ix x2))) ⟨fun hc371 => ?_, fun hc371 => ?_⟩)
    · have h372 := h370.1 hc371
      refine wpc_sl (n := 4) (c' := 16) (pc' := 56) (ls' := [some (.ref 0), some (.int x1), some (.int x2), none, some (.int x4), some (.int (((3 : Int32) * x4) + (1 : Int32)))]) (st' := [.int x2, .ref 5, .int (((3 : Int32) * x4) + (1 : Int32))]) (s' := s) rfl ?_
      refine wpc_ldaI (a := 4) (N := 64) (v := (gI s 5 (ix x2))) rfl rfl (by decide) h372.1 rfl ?_
      have h374 := h372.2
      refine wpc_icmp (a := 68) (b := 60) rfl (by decide) rfl rfl (wpc_br (p := (gI s 5 (ix x2)) < (((3 : Int32) * x4) + (1 : Int32))) ⟨fun hc375 => ?_, fun hc375 => ?_⟩)
      · have h376 := h374.1 hc375
        refine wpc_sl (n := 4) (c' := 16) (pc' := 65) (ls' := [some (.ref 0), some (.int x1), some (.int x2), none, some (.int x4), some (.int (((3 : Int32) * x4) + (1 : Int32)))]) (st' := [.int x2, .int x4, .int x1, .ref 0]) (s' := s) rfl ?_
        refine wpc_callV (m' := 37) (me' := cm37) (as := [.int x1, .int x4, .int x2]) (r := []) rfl rfl rfl rfl rfl ⟨by decide, (by first | decide | exact Nat.le_of_ble_eq_true rfl), (by first | decide | exact Nat.le_of_ble_eq_true rfl), rfl⟩ (calV.mono h376 fun s378 h380 => ?_)
        exact wpc_lle (ls := [some (.ref 0), some (.int x1), some (.int x2), none, some (.int x4), none]) ⟨rfl, rfl, rfl, rfl, trivial⟩ h380
      · have h377 := h374.2 hc375
        exact wpc_lle (ls := [some (.ref 0), some (.int x1), some (.int x2), none, some (.int x4), none]) ⟨rfl, rfl, rfl, rfl, trivial⟩ h377
    · have h373 := h370.2 hc371
      refine wpc_sl (n := 1) (c' := 16) (pc' := 74) (ls' := [some (.ref 0), some (.int x1), some (.int x2), none, some (.int x4), some (.int (((3 : Int32) * x4) + (1 : Int32)))]) (st' := []) (s' := s) rfl ?_
      exact wpc_ret rfl rfl (fun q => absurd q (by decide)) rfl ⟨rfl, h373⟩
  · have h369 := h.2 hc367
    exact wpc_ret rfl rfl (fun q => absurd q (by decide)) rfl ⟨rfl, h369⟩
theorem c36_68 (x1 : Int32) (x2 : Int32) (x4 : Int32) (s : St) (Q : St → Prop) (h : wpcV PP 36 cm36 16 18 [some (.ref 0), some (.int x1), some (.int x2), none, some (.int (x4 + (1 : Int32))), none] [] s Q) : wpcV PP 36 cm36 16 68 [some (.ref 0), some (.int x1), some (.int x2), none, some (.int x4), none] [] s Q := by
  refine wpc_sl (n := 2) (c' := 16) (pc' := 18) (ls' := [some (.ref 0), some (.int x1), some (.int x2), none, some (.int (x4 + (1 : Int32))), none]) (st' := []) (s' := s) rfl ?_
  exact h
theorem c23_in (a1 : Int32) (s : St) (Q : Int32 → St → Prop) (h : ((a1 < (0 : Int32)) → Q (0 : Int32) s) ∧ (¬ (a1 < (0 : Int32)) → ((a1 < (gI s 0 28)) → Q (1 : Int32) s) ∧ (¬ (a1 < (gI s 0 28)) → Q (0 : Int32) s))) : calI PP 23 16 [.ref 0, .int a1] s Q := by
  refine cal_of (me := cm23) (ls := [some (.ref 0), some (.int a1)]) rfl (Nat.le_of_ble_eq_true rfl) rfl ?_
  refine wpc_sl (n := 1) (c' := 16) (pc' := 1) (ls' := [some (.ref 0), some (.int a1)]) (st' := [.int a1]) (s' := s) rfl ?_
  refine wpc_if (a := 16) (b := 4) rfl (by decide) rfl rfl (wpc_br (p := a1 < (0 : Int32)) ⟨fun hc460 => ?_, fun hc460 => ?_⟩)
  · have h461 := h.1 hc460
    refine wpc_sl (n := 1) (c' := 16) (pc' := 17) (ls' := [some (.ref 0), some (.int a1)]) (st' := [.int (0 : Int32)]) (s' := s) rfl ?_
    exact wpc_ret rfl rfl (fun q => absurd q (by decide)) rfl ⟨(0 : Int32), rfl, h461⟩
  · have h462 := h.2 hc460
    refine wpc_sl (n := 3) (c' := 16) (pc' := 9) (ls' := [some (.ref 0), some (.int a1)]) (st' := [.int (gI s 0 28), .int a1]) (s' := s) rfl ?_
    refine wpc_icmp (a := 16) (b := 12) rfl (by decide) rfl rfl (wpc_br (p := a1 < (gI s 0 28)) ⟨fun hc463 => ?_, fun hc463 => ?_⟩)
    · have h464 := h462.1 hc463
      refine wpc_sl (n := 2) (c' := 16) (pc' := 17) (ls' := [some (.ref 0), some (.int a1)]) (st' := [.int (1 : Int32)]) (s' := s) rfl ?_
      exact wpc_ret rfl rfl (fun q => absurd q (by decide)) rfl ⟨(1 : Int32), rfl, h464⟩
    · have h465 := h462.2 hc463
      refine wpc_sl (n := 1) (c' := 16) (pc' := 17) (ls' := [some (.ref 0), some (.int a1)]) (st' := [.int (0 : Int32)]) (s' := s) rfl ?_
      exact wpc_ret rfl rfl (fun q => absurd q (by decide)) rfl ⟨(0 : Int32), rfl, h465⟩
theorem c48_in (a1 : Int32) (a2 : Int32) (s : St) (Q : Int32 → St → Prop) (h : Q ((a1 * (64 : Int32)) + a2) s) : calI PP 48 16 [.ref 0, .int a1, .int a2] s Q := by
  refine cal_of (me := cm48) (ls := [some (.ref 0), some (.int a1), some (.int a2)]) rfl (Nat.le_of_ble_eq_true rfl) rfl ?_
  refine wpc_sl (n := 5) (c' := 16) (pc' := 6) (ls' := [some (.ref 0), some (.int a1), some (.int a2)]) (st' := [.int ((a1 * (64 : Int32)) + a2)]) (s' := s) rfl ?_
  exact wpc_ret rfl rfl (fun q => absurd q (by decide)) rfl ⟨((a1 * (64 : Int32)) + a2), rfl, h⟩
theorem c38_in (a1 : Int32) (a2 : Int32) (s : St) (Q : Int32 → St → Prop) (h : calI PP 48 16 [.ref 0, .int a1, .int a2] s (fun v467 s466 => inb 256 v467 ∧ (((gI s466 14 (ix v467)) = (0 : Int32)) → (((a2 % (2 : Int32)) = (0 : Int32)) → Q (1 : Int32) s466) ∧ (¬ ((a2 % (2 : Int32)) = (0 : Int32)) → inb 256 v467 ∧ (((gI s466 13 (ix v467)) = (0 : Int32)) → Q (0 : Int32) s466) ∧ (¬ ((gI s466 13 (ix v467)) = (0 : Int32)) → Q (1 : Int32) s466))) ∧ (¬ ((gI s466 14 (ix v467)) = (0 : Int32)) → Q (2 : Int32) s466))) : calI PP 38 16 [.ref 0, .int a1, .int a2] s Q := by
  refine cal_of (me := cm38) (ls := [some (.ref 0), some (.int a1), some (.int a2), none]) rfl (Nat.le_of_ble_eq_true rfl) rfl ?_
  refine wpc_sl (n := 3) (c' := 16) (pc' := 3) (ls' := [some (.ref 0), some (.int a1), some (.int a2), none]) (st' := [.int a2, .int a1, .ref 0]) (s' := s) rfl ?_
  refine wpc_callI (m' := 48) (me' := cm48) (as := [.int a1, .int a2]) (r := []) rfl rfl rfl rfl rfl ⟨by decide, (by first | decide | exact Nat.le_of_ble_eq_true rfl), (by first | decide | exact Nat.le_of_ble_eq_true rfl), rfl⟩ (calI.mono h fun v467 s466 h468 => ?_)
  refine wpc_sl (n := 4) (c' := 16) (pc' := 12) (ls' := [some (.ref 0), some (.int a1), some (.int a2), some (.int v467)]) (st' := [.int v467, .ref 14]) (s' := s466) rfl ?_
  refine wpc_ldaZ (a := 13) (N := 256) (v := (gI s466 14 (ix v467))) rfl rfl (by decide) h468.1 rfl ?_
  have h469 := h468.2
  refine wpc_if (a := 18) (b := 16) rfl (by decide) rfl rfl (wpc_br (p := (gI s466 14 (ix v467)) = (0 : Int32)) ⟨fun hc470 => ?_, fun hc470 => ?_⟩)
  · have h471 := h469.1 hc470
    refine wpc_sl (n := 3) (c' := 16) (pc' := 21) (ls' := [some (.ref 0), some (.int a1), some (.int a2), some (.int v467)]) (st' := [.int (a2 % (2 : Int32))]) (s' := s466) rfl ?_
    refine wpc_if (a := 33) (b := 24) rfl (by decide) rfl rfl (wpc_br (p := (a2 % (2 : Int32)) = (0 : Int32)) ⟨fun hc473 => ?_, fun hc473 => ?_⟩)
    · have h474 := h471.1 hc473
      refine wpc_sl (n := 1) (c' := 16) (pc' := 34) (ls' := [some (.ref 0), some (.int a1), some (.int a2), some (.int v467)]) (st' := [.int (1 : Int32)]) (s' := s466) rfl ?_
      exact wpc_ret rfl rfl (fun q => absurd q (by decide)) rfl ⟨(1 : Int32), rfl, h474⟩
    · have h475 := h471.2 hc473
      refine wpc_sl (n := 3) (c' := 16) (pc' := 29) (ls' := [some (.ref 0), some (.int a1), some (.int a2), some (.int v467)]) (st' := [.int v467, .ref 13]) (s' := s466) rfl ?_
      refine wpc_ldaZ (a := 12) (N := 256) (v := (gI s466 13 (ix v467))) rfl rfl (by decide) h475.1 rfl ?_
      have h476 := h475.2
      refine wpc_if (a := 35) (b := 33) rfl (by decide) rfl rfl (wpc_br (p := (gI s466 13 (ix v467)) = (0 : Int32)) ⟨fun hc477 => ?_, fun hc477 => ?_⟩)
      · have h478 := h476.1 hc477
        refine wpc_sl (n := 1) (c' := 16) (pc' := 36) (ls' := [some (.ref 0), some (.int a1), some (.int a2), some (.int v467)]) (st' := [.int (0 : Int32)]) (s' := s466) rfl ?_
        exact wpc_ret rfl rfl (fun q => absurd q (by decide)) rfl ⟨(0 : Int32), rfl, h478⟩
      · have h479 := h476.2 hc477
        refine wpc_sl (n := 1) (c' := 16) (pc' := 34) (ls' := [some (.ref 0), some (.int a1), some (.int a2), some (.int v467)]) (st' := [.int (1 : Int32)]) (s' := s466) rfl ?_
        exact wpc_ret rfl rfl (fun q => absurd q (by decide)) rfl ⟨(1 : Int32), rfl, h479⟩
  · have h472 := h469.2 hc470
    refine wpc_sl (n := 1) (c' := 16) (pc' := 17) (ls' := [some (.ref 0), some (.int a1), some (.int a2), some (.int v467)]) (st' := [.int (2 : Int32)]) (s' := s466) rfl ?_
    exact wpc_ret rfl rfl (fun q => absurd q (by decide)) rfl ⟨(2 : Int32), rfl, h472⟩
theorem c42_in (a1 : Int32) (a2 : Int32) (s : St) (Q : St → Prop) (h : inb 4 a1 ∧ (((gI s 11 (ix a1)) < (gI s 0 28)) → wpcV PP 42 cm42 16 22 [some (.ref 0), some (.int a1), some (.int a2), some (.int (gI s 11 (ix a1))), some (.int (gI s 11 (ix a1))), some (.int (0 : Int32))] [] s Q) ∧ (¬ ((gI s 11 (ix a1)) < (gI s 0 28)) → Q s)) : calV PP 42 16 [.ref 0, .int a1, .int a2] s Q := by
  refine cal_of (me := cm42) (ls := [some (.ref 0), some (.int a1), some (.int a2), none, none, none]) rfl (Nat.le_of_ble_eq_true rfl) rfl ?_
  refine wpc_sl (n := 3) (c' := 16) (pc' := 5) (ls' := [some (.ref 0), some (.int a1), some (.int a2), none, none, none]) (st' := [.int a1, .ref 11]) (s' := s) rfl ?_
  refine wpc_ldaI (a := 10) (N := 4) (v := (gI s 11 (ix a1))) rfl rfl (by decide) h.1 rfl ?_
  have h480 := h.2
  refine wpc_sl (n := 4) (c' := 16) (pc' := 12) (ls' := [some (.ref 0), some (.int a1), some (.int a2), some (.int (gI s 11 (ix a1))), none, none]) (st' := [.int (gI s 0 28), .int (gI s 11 (ix a1))]) (s' := s) rfl ?_
  refine wpc_icmp (a := 16) (b := 15) rfl (by decide) rfl rfl (wpc_br (p := (gI s 11 (ix a1)) < (gI s 0 28)) ⟨fun hc481 => ?_, fun hc481 => ?_⟩)
  · have h482 := h480.1 hc481
    refine wpc_sl (n := 4) (c' := 16) (pc' := 22) (ls' := [some (.ref 0), some (.int a1), some (.int a2), some (.int (gI s 11 (ix a1))), some (.int (gI s 11 (ix a1))), some (.int (0 : Int32))]) (st' := []) (s' := s) rfl ?_
    exact h482
  · have h483 := h480.2 hc481
    exact wpc_ret rfl rfl (fun q => absurd q (by decide)) rfl ⟨rfl, h483⟩
theorem c42_22 (x1 : Int32) (x2 : Int32) (x3 : Int32) (x4 : Int32) (x5 : Int32) (s : St) (Q : St → Prop) (h : ((x5 < x3) → calI PP 49 16 [.ref 0, .int x1, .int x5] s (fun v488 s487 => inb 256 v488 ∧ ((x2 < (gI s487 15 (ix v488))) → wpcV PP 42 cm42 16 57 [some (.ref 0), some (.int x1), some (.int x2), some (.int x3), some (.int x5), none] [] s487 Q) ∧ (¬ (x2 < (gI s487 15 (ix v488))) → wpcV PP 42 cm42 16 22 [some (.ref 0), some (.int x1), some (.int x2), some (.int x3), some (.int x4), some (.int (x5 + (1 : Int32)))] [] s487 Q))) ∧ (¬ (x5 < x3) → wpcV PP 42 cm42 16 57 [some (.ref 0), some (.int x1), some (.int x2), some (.int x3), some (.int x4), none] [] s Q)) : wpcV PP 42 cm42 16 22 [some (.ref 0), some (.int x1), some (.int x2), some (.int x3), some (.int x4), some (.int x5)] [] s Q := by
  refine wpc_sl (n := 2) (c' := 16) (pc' := 25) (ls' := [some (.ref 0), some (.int x1), some (.int x2), some (.int x3), some (.int x4), some (.int x5)]) (st' := [.int x3, .int x5]) (s' := s) rfl ?_
  refine wpc_icmp (a := 57) (b := 28) rfl (by decide) rfl rfl (wpc_br (p := x5 < x3) ⟨fun hc484 => ?_, fun hc484 => ?_⟩)
  · have h485 := h.1 hc484
    refine wpc_sl (n := 5) (c' := 16) (pc' := 36) (ls' := [some (.ref 0), some (.int x1), some (.int x2), some (.int x3), some (.int x4), some (.int x5)]) (st' := [.int x5, .int x1, .ref 0, .ref 15]) (s' := s) rfl ?_
    refine wpc_callI (m' := 49) (me' := cm49) (as := [.int x1, .int x5]) (r := [.ref 15]) rfl rfl rfl rfl rfl ⟨by decide, (by first | decide | exact Nat.le_of_ble_eq_true rfl), (by first | decide | exact Nat.le_of_ble_eq_true rfl), rfl⟩ (calI.mono h485 fun v488 s487 h489 => ?_)
    refine wpc_ldaI (a := 14) (N := 256) (v := (gI s487 15 (ix v488))) rfl rfl (by decide) h489.1 rfl ?_
    have h490 := h489.2
    refine wpc_sl (n := 1) (c' := 16) (pc' := 41) (ls' := [some (.ref 0), some (.int x1), some (.int x2), some (.int x3), some (.int x4), some (.int x5)]) (st' := [.int x2, .int (gI s487 15 (ix v488))]) (s' := s487) rfl ?_
    refine wpc_icmp (a := 51) (b := 44) rfl (by decide) rfl rfl (wpc_br (p := x2 < (gI s487 15 (ix v488))) ⟨fun hc491 => ?_, fun hc491 => ?_⟩)
    · have h492 := h490.1 hc491
      refine wpc_sl (n := 3) (c' := 16) (pc' := 57) (ls' := [some (.ref 0), some (.int x1), some (.int x2), some (.int x3), some (.int x5), some (.int x5)]) (st' := []) (s' := s487) rfl ?_
      exact wpc_lle (ls := [some (.ref 0), some (.int x1), some (.int x2), some (.int x3), some (.int x5), none]) ⟨rfl, rfl, rfl, rfl, rfl, trivial⟩ h492
    · have h493 := h490.2 hc491
      refine wpc_sl (n := 2) (c' := 16) (pc' := 22) (ls' := [some (.ref 0), some (.int x1), some (.int x2), some (.int x3), some (.int x4), some (.int (x5 + (1 : Int32)))]) (st' := []) (s' := s487) rfl ?_
      exact h493
  · have h486 := h.2 hc484
    exact wpc_lle (ls := [some (.ref 0), some (.int x1), some (.int x2), some (.int x3), some (.int x4), none]) ⟨rfl, rfl, rfl, rfl, rfl, trivial⟩ h486
theorem c42_57 (x1 : Int32) (x2 : Int32) (x3 : Int32) (x4 : Int32) (s : St) (Q : St → Prop) (h : wpcV PP 42 cm42 16 60 [some (.ref 0), some (.int x1), some (.int x2), some (.int x3), some (.int x4), some (.int x3)] [] s Q) : wpcV PP 42 cm42 16 57 [some (.ref 0), some (.int x1), some (.int x2), some (.int x3), some (.int x4), none] [] s Q := by
  refine wpc_sl (n := 2) (c' := 16) (pc' := 60) (ls' := [some (.ref 0), some (.int x1), some (.int x2), some (.int x3), some (.int x4), some (.int x3)]) (st' := []) (s' := s) rfl ?_
  exact h
theorem c42_60 (x1 : Int32) (x2 : Int32) (x3 : Int32) (x4 : Int32) (x5 : Int32) (s : St) (Q : St → Prop) (h : ((x4 < x5) → calI PP 49 16 [.ref 0, .int x1, .int x5] s (fun v498 s497 => calI PP 49 16 [.ref 0, .int x1, .int (x5 - (1 : Int32))] s497 (fun v501 s500 => inb 256 v501 ∧ inb 256 v498 ∧ wpcV PP 42 cm42 16 60 [some (.ref 0), some (.int x1), some (.int x2), some (.int x3), some (.int x4), some (.int (x5 + (-1 : Int32)))] [] (sI s500 15 (ix v498) (gI s500 15 (ix v501))) Q))) ∧ (¬ (x4 < x5) → calI PP 49 16 [.ref 0, .int x1, .int x4] s (fun v506 s505 => inb 256 v506 ∧ inb 4 x1 ∧ Q (sI (sI s505 15 (ix v506) x2) 11 (ix x1) (x3 + (1 : Int32)))))) : wpcV PP 42 cm42 16 60 [some (.ref 0), some (.int x1), some (.int x2), some (.int x3), some (.int x4), some (.int x5)] [] s Q := by
  refine wpc_sl (n := 2) (c' := 16) (pc' := 64) (ls' := [some (.ref 0), some (.int x1), some (.int x2), some (.int x3), some (.int x4), some (.int x5)]) (st' := [.int x4, .int x5]) (s' := s) rfl ?_
  refine wpc_icmp (a := 99) (b := 67) rfl (by decide) rfl rfl (wpc_br (p := x4 < x5) ⟨fun hc494 => ?_, fun hc494 => ?_⟩)
  · have h495 := h.1 hc494
    refine wpc_sl (n := 5) (c' := 16) (pc' := 75) (ls' := [some (.ref 0), some (.int x1), some (.int x2), some (.int x3), some (.int x4), some (.int x5)]) (st' := [.int x5, .int x1, .ref 0, .ref 15]) (s' := s) rfl ?_
    refine wpc_callI (m' := 49) (me' := cm49) (as := [.int x1, .int x5]) (r := [.ref 15]) rfl rfl rfl rfl rfl ⟨by decide, (by first | decide | exact Nat.le_of_ble_eq_true rfl), (by first | decide | exact Nat.le_of_ble_eq_true rfl), rfl⟩ (calI.mono h495 fun v498 s497 h499 => ?_)
    refine wpc_sl (n := 7) (c' := 16) (pc' := 88) (ls' := [some (.ref 0), some (.int x1), some (.int x2), some (.int x3), some (.int x4), some (.int x5)]) (st' := [.int (x5 - (1 : Int32)), .int x1, .ref 0, .ref 15, .int v498, .ref 15]) (s' := s497) rfl ?_
    refine wpc_callI (m' := 49) (me' := cm49) (as := [.int x1, .int (x5 - (1 : Int32))]) (r := [.ref 15, .int v498, .ref 15]) rfl rfl rfl rfl rfl ⟨by decide, (by first | decide | exact Nat.le_of_ble_eq_true rfl), (by first | decide | exact Nat.le_of_ble_eq_true rfl), rfl⟩ (calI.mono h499 fun v501 s500 h502 => ?_)
    refine wpc_ldaI (a := 14) (N := 256) (v := (gI s500 15 (ix v501))) rfl rfl (by decide) h502.1 rfl ?_
    have h503 := h502.2
    refine wpc_staI (a := 14) (N := 256) (s' := (sI s500 15 (ix v498) (gI s500 15 (ix v501)))) rfl rfl (by decide) h503.1 rfl ?_
    have h504 := h503.2
    refine wpc_sl (n := 2) (c' := 16) (pc' := 60) (ls' := [some (.ref 0), some (.int x1), some (.int x2), some (.int x3), some (.int x4), some (.int (x5 + (-1 : Int32)))]) (st' := []) (s' := (sI s500 15 (ix v498) (gI s500 15 (ix v501)))) rfl ?_
    exact h504
  · have h496 := h.2 hc494
    refine wpc_sl (n := 5) (c' := 16) (pc' := 107) (ls' := [some (.ref 0), some (.int x1), some (.int x2), some (.int x3), some (.int x4), some (.int x5)]) (st' := [.int x4, .int x1, .ref 0, .ref 15]) (s' := s) rfl ?_
    refine wpc_callI (m' := 49) (me' := cm49) (as := [.int x1, .int x4]) (r := [.ref 15]) rfl rfl rfl rfl rfl ⟨by decide, (by first | decide | exact Nat.le_of_ble_eq_true rfl), (by first | decide | exact Nat.le_of_ble_eq_true rfl), rfl⟩ (calI.mono h496 fun v506 s505 h507 => ?_)
    refine wpc_sl (n := 1) (c' := 16) (pc' := 111) (ls' := [some (.ref 0), some (.int x1), some (.int x2), some (.int x3), some (.int x4), some (.int x5)]) (st' := [.int x2, .int v506, .ref 15]) (s' := s505) rfl ?_
    refine wpc_staI (a := 14) (N := 256) (s' := (sI s505 15 (ix v506) x2)) rfl rfl (by decide) h507.1 rfl ?_
    have h508 := h507.2
    refine wpc_sl (n := 6) (c' := 16) (pc' := 120) (ls' := [some (.ref 0), some (.int x1), some (.int x2), some (.int x3), some (.int x4), some (.int x5)]) (st' := [.int (x3 + (1 : Int32)), .int x1, .ref 11]) (s' := (sI s505 15 (ix v506) x2)) rfl ?_
    refine wpc_staI (a := 10) (N := 4) (s' := (sI (sI s505 15 (ix v506) x2) 11 (ix x1) (x3 + (1 : Int32)))) rfl rfl (by decide) h508.1 rfl ?_
    have h509 := h508.2
    exact wpc_ret rfl rfl (fun q => absurd q (by decide)) rfl ⟨rfl, h509⟩
theorem c43_in (a1 : Int32) (a2 : Int32) (s : St) (Q : St → Prop) (h : inb 4 a1 ∧ wpcV PP 43 cm43 16 13 [some (.ref 0), some (.int a1), some (.int a2), some (.int (gI s 11 (ix a1))), some (.int (-1 : Int32)), some (.int (0 : Int32))] [] s Q) : calV PP 43 16 [.ref 0, .int a1, .int a2] s Q := by
  refine cal_of (me := cm43) (ls := [some (.ref 0), some (.int a1), some (.int a2), none, none, none]) rfl (Nat.le_of_ble_eq_true rfl) rfl ?_
  refine wpc_sl (n := 3) (c' := 16) (pc' := 5) (ls' := [some (.ref 0), some (.int a1), some (.int a2), none, none, none]) (st' := [.int a1, .ref 11]) (s' := s) rfl ?_
  refine wpc_ldaI (a := 10) (N := 4) (v := (gI s 11 (ix a1))) rfl rfl (by decide) h.1 rfl ?_
  have h510 := h.2
  refine wpc_sl (n := 5) (c' := 16) (pc' := 13) (ls' := [some (.ref 0), some (.int a1), some (.int a2), some (.int (gI s 11 (ix a1))), some (.int (-1 : Int32)), some (.int (0 : Int32))]) (st' := []) (s' := s) rfl ?_
  exact h510
theorem c43_13 (x1 : Int32) (x2 : Int32) (x3 : Int32) (x4 : Int32) (x5 : Int32) (s : St) (Q : St → Prop) (h : ((x5 < x3) → calI PP 49 16 [.ref 0, .int x1, .int x5] s (fun v515 s514 => inb 256 v515 ∧ (((gI s514 15 (ix v515)) = x2) → wpcV PP 43 cm43 16 48 [some (.ref 0), some (.int x1), none, some (.int x3), some (.int x5), none] [] s514 Q) ∧ (¬ ((gI s514 15 (ix v515)) = x2) → wpcV PP 43 cm43 16 13 [some (.ref 0), some (.int x1), some (.int x2), some (.int x3), some (.int x4), some (.int (x5 + (1 : Int32)))] [] s514 Q))) ∧ (¬ (x5 < x3) → wpcV PP 43 cm43 16 48 [some (.ref 0), some (.int x1), none, some (.int x3), some (.int x4), none] [] s Q)) : wpcV PP 43 cm43 16 13 [some (.ref 0), some (.int x1), some (.int x2), some (.int x3), some (.int x4), some (.int x5)] [] s Q := by
  refine wpc_sl (n := 2) (c' := 16) (pc' := 16) (ls' := [some (.ref 0), some (.int x1), some (.int x2), some (.int x3), some (.int x4), some (.int x5)]) (st' := [.int x3, .int x5]) (s' := s) rfl ?_
  refine wpc_icmp (a := 48) (b := 19) rfl (by decide) rfl rfl (wpc_br (p := x5 < x3) ⟨fun hc511 => ?_, fun hc511 => ?_⟩)
  · have h512 := h.1 hc511
    refine wpc_sl (n := 5) (c' := 16) (pc' := 27) (ls' := [some (.ref 0), some (.int x1), some (.int x2), some (.int x3), some (.int x4), some (.int x5)]) (st' := [.int x5, .int x1, .ref 0, .ref 15]) (s' := s) rfl ?_
    refine wpc_callI (m' := 49) (me' := cm49) (as := [.int x1, .int x5]) (r := [.ref 15]) rfl rfl rfl rfl rfl ⟨by decide, (by first | decide | exact Nat.le_of_ble_eq_true rfl), (by first | decide | exact Nat.le_of_ble_eq_true rfl), rfl⟩ (calI.mono h512 fun v515 s514 h516 => ?_)
    refine wpc_ldaI (a := 14) (N := 256) (v := (gI s514 15 (ix v515))) rfl rfl (by decide) h516.1 rfl ?_
    have h517 := h516.2
    refine wpc_sl (n := 1) (c' := 16) (pc' := 32) (ls' := [some (.ref 0), some (.int x1), some (.int x2), some (.int x3), some (.int x4), some (.int x5)]) (st' := [.int x2, .int (gI s514 15 (ix v515))]) (s' := s514) rfl ?_
    refine wpc_icmp (a := 42) (b := 35) rfl (by decide) rfl rfl (wpc_br (p := (gI s514 15 (ix v515)) = x2) ⟨fun hc518 => ?_, fun hc518 => ?_⟩)
    · have h519 := h517.1 hc518
      refine wpc_sl (n := 3) (c' := 16) (pc' := 48) (ls' := [some (.ref 0), some (.int x1), some (.int x2), some (.int x3), some (.int x5), some (.int x5)]) (st' := []) (s' := s514) rfl ?_
      exact wpc_lle (ls := [some (.ref 0), some (.int x1), none, some (.int x3), some (.int x5), none]) ⟨rfl, rfl, rfl, rfl, trivial⟩ h519
    · have h520 := h517.2 hc518
      refine wpc_sl (n := 2) (c' := 16) (pc' := 13) (ls' := [some (.ref 0), some (.int x1), some (.int x2), some (.int x3), some (.int x4), some (.int (x5 + (1 : Int32)))]) (st' := []) (s' := s514) rfl ?_
      exact h520
  · have h513 := h.2 hc511
    exact wpc_lle (ls := [some (.ref 0), some (.int x1), none, some (.int x3), some (.int x4), none]) ⟨rfl, rfl, rfl, rfl, trivial⟩ h513
theorem c43_48 (x1 : Int32) (x3 : Int32) (x4 : Int32) (s : St) (Q : St → Prop) (h : ((x4 < (0 : Int32)) → Q s) ∧ (¬ (x4 < (0 : Int32)) → wpcV PP 43 cm43 16 58 [some (.ref 0), some (.int x1), none, some (.int x3), none, some (.int x4)] [] s Q)) : wpcV PP 43 cm43 16 48 [some (.ref 0), some (.int x1), none, some (.int x3), some (.int x4), none] [] s Q := by
  refine wpc_sl (n := 1) (c' := 16) (pc' := 50) (ls' := [some (.ref 0), some (.int x1), none, some (.int x3), some (.int x4), none]) (st' := [.int x4]) (s' := s) rfl ?_
  refine wpc_if (a := 54) (b := 53) rfl (by decide) rfl rfl (wpc_br (p := x4 < (0 : Int32)) ⟨fun hc521 => ?_, fun hc521 => ?_⟩)
  · have h522 := h.1 hc521
    exact wpc_ret rfl rfl (fun q => absurd q (by decide)) rfl ⟨rfl, h522⟩
  · have h523 := h.2 hc521
    refine wpc_sl (n := 2) (c' := 16) (pc' := 58) (ls' := [some (.ref 0), some (.int x1), none, some (.int x3), some (.int x4), some (.int x4)]) (st' := []) (s' := s) rfl ?_
    exact wpc_lle (ls := [some (.ref 0), some (.int x1), none, some (.int x3), none, some (.int x4)]) ⟨rfl, rfl, rfl, rfl, trivial⟩ h523
theorem c43_58 (x1 : Int32) (x3 : Int32) (x5 : Int32) (s : St) (Q : St → Prop) (h : ((x5 < (x3 - (1 : Int32))) → calI PP 49 16 [.ref 0, .int x1, .int x5] s (fun v528 s527 => calI PP 49 16 [.ref 0, .int x1, .int (x5 + (1 : Int32))] s527 (fun v531 s530 => inb 256 v531 ∧ inb 256 v528 ∧ wpcV PP 43 cm43 16 58 [some (.ref 0), some (.int x1), none, some (.int x3), none, some (.int (x5 + (1 : Int32)))] [] (sI s530 15 (ix v528) (gI s530 15 (ix v531))) Q))) ∧ (¬ (x5 < (x3 - (1 : Int32))) → inb 4 x1 ∧ Q (sI s 11 (ix x1) (x3 - (1 : Int32))))) : wpcV PP 43 cm43 16 58 [some (.ref 0), some (.int x1), none, some (.int x3), none, some (.int x5)] [] s Q := by
  refine wpc_sl (n := 4) (c' := 16) (pc' := 63) (ls' := [some (.ref 0), some (.int x1), none, some (.int x3), none, some (.int x5)]) (st' := [.int (x3 - (1 : Int32)), .int x5]) (s' := s) rfl ?_
  refine wpc_icmp (a := 98) (b := 66) rfl (by decide) rfl rfl (wpc_br (p := x5 < (x3 - (1 : Int32))) ⟨fun hc524 => ?_, fun hc524 => ?_⟩)
  · have h525 := h.1 hc524
    refine wpc_sl (n := 5) (c' := 16) (pc' := 74) (ls' := [some (.ref 0), some (.int x1), none, some (.int x3), none, some (.int x5)]) (st' := [.int x5, .int x1, .ref 0, .ref 15]) (s' := s) rfl ?_
    refine wpc_callI (m' := 49) (me' := cm49) (as := [.int x1, .int x5]) (r := [.ref 15]) rfl rfl rfl rfl rfl ⟨by decide, (by first | decide | exact Nat.le_of_ble_eq_true rfl), (by first | decide | exact Nat.le_of_ble_eq_true rfl), rfl⟩ (calI.mono h525 fun v528 s527 h529 => ?_)
    refine wpc_sl (n := 7) (c' := 16) (pc' := 87) (ls' := [some (.ref 0), some (.int x1), none, some (.int x3), none, some (.int x5)]) (st' := [.int (x5 + (1 : Int32)), .int x1, .ref 0, .ref 15, .int v528, .ref 15]) (s' := s527) rfl ?_
    refine wpc_callI (m' := 49) (me' := cm49) (as := [.int x1, .int (x5 + (1 : Int32))]) (r := [.ref 15, .int v528, .ref 15]) rfl rfl rfl rfl rfl ⟨by decide, (by first | decide | exact Nat.le_of_ble_eq_true rfl), (by first | decide | exact Nat.le_of_ble_eq_true rfl), rfl⟩ (calI.mono h529 fun v531 s530 h532 => ?_)
    refine wpc_ldaI (a := 14) (N := 256) (v := (gI s530 15 (ix v531))) rfl rfl (by decide) h532.1 rfl ?_
    have h533 := h532.2
    refine wpc_staI (a := 14) (N := 256) (s' := (sI s530 15 (ix v528) (gI s530 15 (ix v531)))) rfl rfl (by decide) h533.1 rfl ?_
    have h534 := h533.2
    refine wpc_sl (n := 2) (c' := 16) (pc' := 58) (ls' := [some (.ref 0), some (.int x1), none, some (.int x3), none, some (.int (x5 + (1 : Int32)))]) (st' := []) (s' := (sI s530 15 (ix v528) (gI s530 15 (ix v531)))) rfl ?_
    exact h534
  · have h526 := h.2 hc524
    refine wpc_sl (n := 6) (c' := 16) (pc' := 106) (ls' := [some (.ref 0), some (.int x1), none, some (.int x3), none, some (.int x5)]) (st' := [.int (x3 - (1 : Int32)), .int x1, .ref 11]) (s' := s) rfl ?_
    refine wpc_staI (a := 10) (N := 4) (s' := (sI s 11 (ix x1) (x3 - (1 : Int32)))) rfl rfl (by decide) h526.1 rfl ?_
    have h535 := h526.2
    exact wpc_ret rfl rfl (fun q => absurd q (by decide)) rfl ⟨rfl, h535⟩
theorem c35_in (a1 : Int32) (a2 : Int32) (s : St) (Q : St → Prop) (h : inb 64 a2 ∧ calI PP 23 16 [.ref 0, .int (gI s 8 (ix a2))] s (fun v419 s418 => ((v419 = (0 : Int32)) → Q s418) ∧ (¬ (v419 = (0 : Int32)) → calI PP 38 16 [.ref 0, .int a1, .int (gI s 8 (ix a2))] s418 (fun v425 s424 => inb 64 a2 ∧ (((gI s424 1 (ix a2)) = (0 : Int32)) → calI PP 48 16 [.ref 0, .int a1, .int (gI s 8 (ix a2))] s424 (fun v432 s431 => inb 256 v432 ∧ wpcV PP 35 cm35 16 60 [some (.ref 0), some (.int a1), none, some (.int (gI s 8 (ix a2))), some (.int v425), none] [] (sI s431 13 (ix v432) (1 : Int32)) Q)) ∧ (¬ ((gI s424 1 (ix a2)) = (0 : Int32)) → calI PP 48 16 [.ref 0, .int a1, .int (gI s 8 (ix a2))] s424 (fun v436 s435 => inb 256 v436 ∧ wpcV PP 35 cm35 16 60 [some (.ref 0), some (.int a1), none, some (.int (gI s 8 (ix a2))), some (.int v425), none] [] (sI s435 14 (ix v436) (1 : Int32)) Q)))))) : calV PP 35 16 [.ref 0, .int a1, .int a2] s Q := by
  refine cal_of (me := cm35) (ls := [some (.ref 0), some (.int a1), some (.int a2), none, none, none]) rfl (Nat.le_of_ble_eq_true rfl) rfl ?_
  refine wpc_sl (n := 3) (c' := 16) (pc' := 5) (ls' := [some (.ref 0), some (.int a1), some (.int a2), none, none, none]) (st' := [.int a2, .ref 8]) (s' := s) rfl ?_
  refine wpc_ldaI (a := 7) (N := 64) (v := (gI s 8 (ix a2))) rfl rfl (by decide) h.1 rfl ?_
  have h417 := h.2
  refine wpc_sl (n := 3) (c' := 16) (pc' := 9) (ls' := [some (.ref 0), some (.int a1), some (.int a2), some (.int (gI s 8 (ix a2))), none, none]) (st' := [.int (gI s 8 (ix a2)), .ref 0]) (s' := s) rfl ?_
  refine wpc_callI (m' := 23) (me' := cm23) (as := [.int (gI s 8 (ix a2))]) (r := []) rfl rfl rfl rfl rfl ⟨by decide, (by first | decide | exact Nat.le_of_ble_eq_true rfl), (by first | decide | exact Nat.le_of_ble_eq_true rfl), rfl⟩ (calI.mono h417 fun v419 s418 h420 => ?_)
  refine wpc_if (a := 16) (b := 15) rfl (by decide) rfl rfl (wpc_br (p := v419 = (0 : Int32)) ⟨fun hc421 => ?_, fun hc421 => ?_⟩)
  · have h422 := h420.1 hc421
    exact wpc_ret rfl rfl (fun q => absurd q (by decide)) rfl ⟨rfl, h422⟩
  · have h423 := h420.2 hc421
    refine wpc_sl (n := 3) (c' := 16) (pc' := 19) (ls' := [some (.ref 0), some (.int a1), some (.int a2), some (.int (gI s 8 (ix a2))), none, none]) (st' := [.int (gI s 8 (ix a2)), .int a1, .ref 0]) (s' := s418) rfl ?_
    refine wpc_callI (m' := 38) (me' := cm38) (as := [.int a1, .int (gI s 8 (ix a2))]) (r := []) rfl rfl rfl rfl rfl ⟨by decide, (by first | decide | exact Nat.le_of_ble_eq_true rfl), (by first | decide | exact Nat.le_of_ble_eq_true rfl), rfl⟩ (calI.mono h423 fun v425 s424 h426 => ?_)
    refine wpc_sl (n := 4) (c' := 16) (pc' := 29) (ls' := [some (.ref 0), some (.int a1), some (.int a2), some (.int (gI s 8 (ix a2))), some (.int v425), none]) (st' := [.int a2, .ref 1]) (s' := s424) rfl ?_
    refine wpc_ldaI (a := 0) (N := 64) (v := (gI s424 1 (ix a2))) rfl rfl (by decide) h426.1 rfl ?_
    have h427 := h426.2
    refine wpc_if (a := 48) (b := 33) rfl (by decide) rfl rfl (wpc_br (p := (gI s424 1 (ix a2)) = (0 : Int32)) ⟨fun hc428 => ?_, fun hc428 => ?_⟩)
    · have h429 := h427.1 hc428
      refine wpc_sl (n := 5) (c' := 16) (pc' := 40) (ls' := [some (.ref 0), some (.int a1), some (.int a2), some (.int (gI s 8 (ix a2))), some (.int v425), none]) (st' := [.int (gI s 8 (ix a2)), .int a1, .ref 0, .ref 13]) (s' := s424) rfl ?_
      refine wpc_callI (m' := 48) (me' := cm48) (as := [.int a1, .int (gI s 8 (ix a2))]) (r := [.ref 13]) rfl rfl rfl rfl rfl ⟨by decide, (by first | decide | exact Nat.le_of_ble_eq_true rfl), (by first | decide | exact Nat.le_of_ble_eq_true rfl), rfl⟩ (calI.mono h429 fun v432 s431 h433 => ?_)
      refine wpc_sl (n := 1) (c' := 16) (pc' := 44) (ls' := [some (.ref 0), some (.int a1), some (.int a2), some (.int (gI s 8 (ix a2))), some (.int v425), none]) (st' := [.int (1 : Int32), .int v432, .ref 13]) (s' := s431) rfl ?_
      refine wpc_staZ (a := 12) (N := 256) (s' := (sI s431 13 (ix v432) (1 : Int32))) rfl rfl (by decide) h433.1 rfl ?_
      have h434 := h433.2
      refine wpc_sl (n := 1) (c' := 16) (pc' := 60) (ls' := [some (.ref 0), some (.int a1), some (.int a2), some (.int (gI s 8 (ix a2))), some (.int v425), none]) (st' := []) (s' := (sI s431 13 (ix v432) (1 : Int32))) rfl ?_
      exact wpc_lle (ls := [some (.ref 0), some (.int a1), none, some (.int (gI s 8 (ix a2))), some (.int v425), none]) ⟨rfl, rfl, rfl, rfl, trivial⟩ h434
    · have h430 := h427.2 hc428
      refine wpc_sl (n := 5) (c' := 16) (pc' := 55) (ls' := [some (.ref 0), some (.int a1), some (.int a2), some (.int (gI s 8 (ix a2))), some (.int v425), none]) (st' := [.int (gI s 8 (ix a2)), .int a1, .ref 0, .ref 14]) (s' := s424) rfl ?_
      refine wpc_callI (m' := 48) (me' := cm48) (as := [.int a1, .int (gI s 8 (ix a2))]) (r := [.ref 14]) rfl rfl rfl rfl rfl ⟨by decide, (by first | decide | exact Nat.le_of_ble_eq_true rfl), (by first | decide | exact Nat.le_of_ble_eq_true rfl), rfl⟩ (calI.mono h430 fun v436 s435 h437 => ?_)
      refine wpc_sl (n := 1) (c' := 16) (pc' := 59) (ls' := [some (.ref 0), some (.int a1), some (.int a2), some (.int (gI s 8 (ix a2))), some (.int v425), none]) (st' := [.int (1 : Int32), .int v436, .ref 14]) (s' := s435) rfl ?_
      refine wpc_staZ (a := 13) (N := 256) (s' := (sI s435 14 (ix v436) (1 : Int32))) rfl rfl (by decide) h437.1 rfl ?_
      have h438 := h437.2
      exact wpc_lle (ls := [some (.ref 0), some (.int a1), none, some (.int (gI s 8 (ix a2))), some (.int v425), none]) ⟨rfl, rfl, rfl, rfl, trivial⟩ h438
theorem c35_60 (x1 : Int32) (x3 : Int32) (x4 : Int32) (s : St) (Q : St → Prop) (h : calI PP 38 16 [.ref 0, .int x1, .int x3] s (fun v440 s439 => ((x4 = (1 : Int32)) → wpcV PP 35 cm35 16 86 [some (.ref 0), some (.int x1), none, some (.int x3), some (.int x4), some (.int v440)] [] s439 Q) ∧ (¬ (x4 = (1 : Int32)) → ((v440 = (1 : Int32)) → calV PP 42 16 [.ref 0, .int x1, .int x3] s439 (fun s448 => wpcV PP 35 cm35 16 86 [some (.ref 0), some (.int x1), none, some (.int x3), some (.int x4), some (.int v440)] [] s448 Q)) ∧ (¬ (v440 = (1 : Int32)) → wpcV PP 35 cm35 16 86 [some (.ref 0), some (.int x1), none, some (.int x3), some (.int x4), some (.int v440)] [] s439 Q)))) : wpcV PP 35 cm35 16 60 [some (.ref 0), some (.int x1), none, some (.int x3), some (.int x4), none] [] s Q := by
  refine wpc_sl (n := 3) (c' := 16) (pc' := 63) (ls' := [some (.ref 0), some (.int x1), none, some (.int x3), some (.int x4), none]) (st' := [.int x3, .int x1, .ref 0]) (s' := s) rfl ?_
  refine wpc_callI (m' := 38) (me' := cm38) (as := [.int x1, .int x3]) (r := []) rfl rfl rfl rfl rfl ⟨by decide, (by first | decide | exact Nat.le_of_ble_eq_true rfl), (by first | decide | exact Nat.le_of_ble_eq_true rfl), rfl⟩ (calI.mono h fun v440 s439 h441 => ?_)
  refine wpc_sl (n := 3) (c' := 16) (pc' := 71) (ls' := [some (.ref 0), some (.int x1), none, some (.int x3), some (.int x4), some (.int v440)]) (st' := [.int (1 : Int32), .int x4]) (s' := s439) rfl ?_
  refine wpc_icmp (a := 86) (b := 74) rfl (by decide) rfl rfl (wpc_br (p := x4 = (1 : Int32)) ⟨fun hc442 => ?_, fun hc442 => ?_⟩)
  · have h443 := h441.1 hc442
    exact h443
  · have h444 := h441.2 hc442
    refine wpc_sl (n := 2) (c' := 16) (pc' := 77) (ls' := [some (.ref 0), some (.int x1), none, some (.int x3), some (.int x4), some (.int v440)]) (st' := [.int (1 : Int32), .int v440]) (s' := s439) rfl ?_
    refine wpc_icmp (a := 86) (b := 80) rfl (by decide) rfl rfl (wpc_br (p := v440 = (1 : Int32)) ⟨fun hc445 => ?_, fun hc445 => ?_⟩)
    · have h446 := h444.1 hc445
      refine wpc_sl (n := 3) (c' := 16) (pc' := 83) (ls' := [some (.ref 0), some (.int x1), none, some (.int x3), some (.int x4), some (.int v440)]) (st' := [.int x3, .int x1, .ref 0]) (s' := s439) rfl ?_
      refine wpc_callV (m' := 42) (me' := cm42) (as := [.int x1, .int x3]) (r := []) rfl rfl rfl rfl rfl ⟨by decide, (by first | decide | exact Nat.le_of_ble_eq_true rfl), (by first | decide | exact Nat.le_of_ble_eq_true rfl), rfl⟩ (calV.mono h446 fun s448 h450 => ?_)
      exact h450
    · have h447 := h444.2 hc445
      exact h447
theorem c35_86 (x1 : Int32) (x3 : Int32) (x4 : Int32) (x5 : Int32) (s : St) (Q : St → Prop) (h : ((x4 = (1 : Int32)) → ((x5 = (1 : Int32)) → Q s) ∧ (¬ (x5 = (1 : Int32)) → calV PP 43 16 [.ref 0, .int x1, .int x3] s (fun s457 => Q s457))) ∧ (¬ (x4 = (1 : Int32)) → Q s)) : wpcV PP 35 cm35 16 86 [some (.ref 0), some (.int x1), none, some (.int x3), some (.int x4), some (.int x5)] [] s Q := by
  refine wpc_sl (n := 2) (c' := 16) (pc' := 89) (ls' := [some (.ref 0), some (.int x1), none, some (.int x3), some (.int x4), some (.int x5)]) (st' := [.int (1 : Int32), .int x4]) (s' := s) rfl ?_
  refine wpc_icmp (a := 104) (b := 92) rfl (by decide) rfl rfl (wpc_br (p := x4 = (1 : Int32)) ⟨fun hc451 => ?_, fun hc451 => ?_⟩)
  · have h452 := h.1 hc451
    refine wpc_sl (n := 2) (c' := 16) (pc' := 95) (ls' := [some (.ref 0), some (.int x1), none, some (.int x3), some (.int x4), some (.int x5)]) (st' := [.int (1 : Int32), .int x5]) (s' := s) rfl ?_
    refine wpc_icmp (a := 104) (b := 98) rfl (by decide) rfl rfl (wpc_br (p := x5 = (1 : Int32)) ⟨fun hc454 => ?_, fun hc454 => ?_⟩)
    · have h455 := h452.1 hc454
      exact wpc_ret rfl rfl (fun q => absurd q (by decide)) rfl ⟨rfl, h455⟩
    · have h456 := h452.2 hc454
      refine wpc_sl (n := 3) (c' := 16) (pc' := 101) (ls' := [some (.ref 0), some (.int x1), none, some (.int x3), some (.int x4), some (.int x5)]) (st' := [.int x3, .int x1, .ref 0]) (s' := s) rfl ?_
      refine wpc_callV (m' := 43) (me' := cm43) (as := [.int x1, .int x3]) (r := []) rfl rfl rfl rfl rfl ⟨by decide, (by first | decide | exact Nat.le_of_ble_eq_true rfl), (by first | decide | exact Nat.le_of_ble_eq_true rfl), rfl⟩ (calV.mono h456 fun s457 h459 => ?_)
      exact wpc_ret rfl rfl (fun q => absurd q (by decide)) rfl ⟨rfl, h459⟩
  · have h453 := h.2 hc451
    exact wpc_ret rfl rfl (fun q => absurd q (by decide)) rfl ⟨rfl, h453⟩
theorem c34_in (a1 : Int32) (a2 : Int32) (s : St) (Q : Int32 → St → Prop) (h : calI PP 22 16 [.ref 0, .int a1] s (fun v317 s316 => ((v317 = (0 : Int32)) → Q (0 : Int32) s316) ∧ (¬ (v317 = (0 : Int32)) → calI PP 24 16 [.ref 0, .int a2] s316 (fun v323 s322 => ((v323 = (0 : Int32)) → Q (0 : Int32) s322) ∧ (¬ (v323 = (0 : Int32)) → calI PP 47 16 [.ref 0, .int a1, .int a2] s322 (fun v329 s328 => inb 256 v329 ∧ (((gI s328 12 (ix v329)) = (0 : Int32)) → inb 256 v329 ∧ inb 64 a2 ∧ inb 4 a1 ∧ (((gI s328 10 (ix a1)) < (gI s328 3 (ix a2))) → inb 64 a2 ∧ inb 4 a1 ∧ wpcI PP 34 cm34 16 70 [some (.ref 0), some (.int a1), some (.int a2), none, none] [] (sI (sI s328 12 (ix v329) (1 : Int32)) 10 (ix a1) (gI s328 3 (ix a2))) Q) ∧ (¬ ((gI s328 10 (ix a1)) < (gI s328 3 (ix a2))) → wpcI PP 34 cm34 16 70 [some (.ref 0), some (.int a1), some (.int a2), none, none] [] (sI s328 12 (ix v329) (1 : Int32)) Q)) ∧ (¬ ((gI s328 12 (ix v329)) = (0 : Int32)) → Q (0 : Int32) s328))))))) : calI PP 34 16 [.ref 0, .int a1, .int a2] s Q := by
  refine cal_of (me := cm34) (ls := [some (.ref 0), some (.int a1), some (.int a2), none, none]) rfl (Nat.le_of_ble_eq_true rfl) rfl ?_
  refine wpc_sl (n := 2) (c' := 16) (pc' := 2) (ls' := [some (.ref 0), some (.int a1), some (.int a2), none, none]) (st' := [.int a1, .ref 0]) (s' := s) rfl ?_
  refine wpc_callI (m' := 22) (me' := cm22) (as := [.int a1]) (r := []) rfl rfl rfl rfl rfl ⟨by decide, (by first | decide | exact Nat.le_of_ble_eq_true rfl), (by first | decide | exact Nat.le_of_ble_eq_true rfl), rfl⟩ (calI.mono h fun v317 s316 h318 => ?_)
  refine wpc_if (a := 16) (b := 8) rfl (by decide) rfl rfl (wpc_br (p := v317 = (0 : Int32)) ⟨fun hc319 => ?_, fun hc319 => ?_⟩)
  · have h320 := h318.1 hc319
    refine wpc_sl (n := 1) (c' := 16) (pc' := 17) (ls' := [some (.ref 0), some (.int a1), some (.int a2), none, none]) (st' := [.int (0 : Int32)]) (s' := s316) rfl ?_
    exact wpc_ret rfl rfl (fun q => absurd q (by decide)) rfl ⟨(0 : Int32), rfl, h320⟩
  · have h321 := h318.2 hc319
    refine wpc_sl (n := 2) (c' := 16) (pc' := 10) (ls' := [some (.ref 0), some (.int a1), some (.int a2), none, none]) (st' := [.int a2, .ref 0]) (s' := s316) rfl ?_
    refine wpc_callI (m' := 24) (me' := cm24) (as := [.int a2]) (r := []) rfl rfl rfl rfl rfl ⟨by decide, (by first | decide | exact Nat.le_of_ble_eq_true rfl), (by first | decide | exact Nat.le_of_ble_eq_true rfl), rfl⟩ (calI.mono h321 fun v323 s322 h324 => ?_)
    refine wpc_if (a := 18) (b := 16) rfl (by decide) rfl rfl (wpc_br (p := v323 = (0 : Int32)) ⟨fun hc325 => ?_, fun hc325 => ?_⟩)
    · have h326 := h324.1 hc325
      refine wpc_sl (n := 1) (c' := 16) (pc' := 17) (ls' := [some (.ref 0), some (.int a1), some (.int a2), none, none]) (st' := [.int (0 : Int32)]) (s' := s322) rfl ?_
      exact wpc_ret rfl rfl (fun q => absurd q (by decide)) rfl ⟨(0 : Int32), rfl, h326⟩
    · have h327 := h324.2 hc325
      refine wpc_sl (n := 3) (c' := 16) (pc' := 21) (ls' := [some (.ref 0), some (.int a1), some (.int a2), none, none]) (st' := [.int a2, .int a1, .ref 0]) (s' := s322) rfl ?_
      refine wpc_callI (m' := 47) (me' := cm47) (as := [.int a1, .int a2]) (r := []) rfl rfl rfl rfl rfl ⟨by decide, (by first | decide | exact Nat.le_of_ble_eq_true rfl), (by first | decide | exact Nat.le_of_ble_eq_true rfl), rfl⟩ (calI.mono h327 fun v329 s328 h330 => ?_)
      refine wpc_sl (n := 4) (c' := 16) (pc' := 30) (ls' := [some (.ref 0), some (.int a1), some (.int a2), some (.int v329), none]) (st' := [.int v329, .ref 12]) (s' := s328) rfl ?_
      refine wpc_ldaZ (a := 11) (N := 256) (v := (gI s328 12 (ix v329))) rfl rfl (by decide) h330.1 rfl ?_
      have h331 := h330.2
      refine wpc_if (a := 36) (b := 34) rfl (by decide) rfl rfl (wpc_br (p := (gI s328 12 (ix v329)) = (0 : Int32)) ⟨fun hc332 => ?_, fun hc332 => ?_⟩)
      · have h333 := h331.1 hc332
        refine wpc_sl (n := 4) (c' := 16) (pc' := 42) (ls' := [some (.ref 0), some (.int a1), some (.int a2), some (.int v329), none]) (st' := [.int (1 : Int32), .int v329, .ref 12]) (s' := s328) rfl ?_
        refine wpc_staZ (a := 11) (N := 256) (s' := (sI s328 12 (ix v329) (1 : Int32))) rfl rfl (by decide) h333.1 rfl ?_
        have h335 := h333.2
        refine wpc_sl (n := 3) (c' := 16) (pc' := 48) (ls' := [some (.ref 0), some (.int a1), some (.int a2), some (.int v329), none]) (st' := [.int a2, .ref 3]) (s' := (sI s328 12 (ix v329) (1 : Int32))) rfl ?_
        refine wpc_ldaI (a := 2) (N := 64) (v := (gI s328 3 (ix a2))) rfl rfl (by decide) h335.1 rfl ?_
        have h336 := h335.2
        refine wpc_sl (n := 3) (c' := 16) (pc' := 54) (ls' := [some (.ref 0), some (.int a1), some (.int a2), some (.int v329), none]) (st' := [.int a1, .ref 10, .int (gI s328 3 (ix a2))]) (s' := (sI s328 12 (ix v329) (1 : Int32))) rfl ?_
        refine wpc_ldaI (a := 9) (N := 4) (v := (gI s328 10 (ix a1))) rfl rfl (by decide) h336.1 rfl ?_
        have h337 := h336.2
        refine wpc_icmp (a := 70) (b := 58) rfl (by decide) rfl rfl (wpc_br (p := (gI s328 10 (ix a1)) < (gI s328 3 (ix a2))) ⟨fun hc338 => ?_, fun hc338 => ?_⟩)
        · have h339 := h337.1 hc338
          refine wpc_sl (n := 6) (c' := 16) (pc' := 68) (ls' := [some (.ref 0), some (.int a1), some (.int a2), some (.int v329), none]) (st' := [.int a2, .ref 3, .int a1, .ref 10]) (s' := (sI s328 12 (ix v329) (1 : Int32))) rfl ?_
          refine wpc_ldaI (a := 2) (N := 64) (v := (gI s328 3 (ix a2))) rfl rfl (by decide) h339.1 rfl ?_
          have h341 := h339.2
          refine wpc_staI (a := 9) (N := 4) (s' := (sI (sI s328 12 (ix v329) (1 : Int32)) 10 (ix a1) (gI s328 3 (ix a2)))) rfl rfl (by decide) h341.1 rfl ?_
          have h342 := h341.2
          exact wpc_lle (ls := [some (.ref 0), some (.int a1), some (.int a2), none, none]) ⟨rfl, rfl, rfl, trivial⟩ h342
        · have h340 := h337.2 hc338
          exact wpc_lle (ls := [some (.ref 0), some (.int a1), some (.int a2), none, none]) ⟨rfl, rfl, rfl, trivial⟩ h340
      · have h334 := h331.2 hc332
        refine wpc_sl (n := 1) (c' := 16) (pc' := 35) (ls' := [some (.ref 0), some (.int a1), some (.int a2), some (.int v329), none]) (st' := [.int (0 : Int32)]) (s' := s328) rfl ?_
        exact wpc_ret rfl rfl (fun q => absurd q (by decide)) rfl ⟨(0 : Int32), rfl, h334⟩
theorem c34_70 (x1 : Int32) (x2 : Int32) (s : St) (Q : Int32 → St → Prop) (h : inb 64 x2 ∧ (((gI s 1 (ix x2)) = (0 : Int32)) → wpcI PP 34 cm34 16 89 [some (.ref 0), some (.int x1), some (.int x2), none, none] [] s Q) ∧ (¬ ((gI s 1 (ix x2)) = (0 : Int32)) → (((gI s 1 (ix x2)) = (1 : Int32)) → wpcI PP 34 cm34 16 89 [some (.ref 0), some (.int x1), some (.int x2), none, none] [] s Q) ∧ (¬ ((gI s 1 (ix x2)) = (1 : Int32)) → calV PP 36 16 [.ref 0, .int x1, .int x2] s (fun s350 => Q (1 : Int32) s350)))) : wpcI PP 34 cm34 16 70 [some (.ref 0), some (.int x1), some (.int x2), none, none] [] s Q := by
  refine wpc_sl (n := 3) (c' := 16) (pc' := 75) (ls' := [some (.ref 0), some (.int x1), some (.int x2), none, none]) (st' := [.int x2, .ref 1]) (s' := s) rfl ?_
  refine wpc_ldaI (a := 0) (N := 64) (v := (gI s 1 (ix x2))) rfl rfl (by decide) h.1 rfl ?_
  have h343 := h.2
  refine wpc_sl (n := 2) (c' := 16) (pc' := 80) (ls' := [some (.ref 0), some (.int x1), some (.int x2), none, some (.int (gI s 1 (ix x2)))]) (st' := [.int (gI s 1 (ix x2))]) (s' := s) rfl ?_
  refine wpc_if (a := 89) (b := 83) rfl (by decide) rfl rfl (wpc_br (p := (gI s 1 (ix x2)) = (0 : Int32)) ⟨fun hc344 => ?_, fun hc344 => ?_⟩)
  · have h345 := h343.1 hc344
    exact wpc_lle (ls := [some (.ref 0), some (.int x1), some (.int x2), none, none]) ⟨rfl, rfl, rfl, trivial⟩ h345
  · have h346 := h343.2 hc344
    refine wpc_sl (n := 2) (c' := 16) (pc' := 86) (ls' := [some (.ref 0), some (.int x1), some (.int x2), none, some (.int (gI s 1 (ix x2)))]) (st' := [.int (1 : Int32), .int (gI s 1 (ix x2))]) (s' := s) rfl ?_
    refine wpc_icmp (a := 98) (b := 89) rfl (by decide) rfl rfl (wpc_br (p := (gI s 1 (ix x2)) = (1 : Int32)) ⟨fun hc347 => ?_, fun hc347 => ?_⟩)
    · have h348 := h346.1 hc347
      exact wpc_lle (ls := [some (.ref 0), some (.int x1), some (.int x2), none, none]) ⟨rfl, rfl, rfl, trivial⟩ h348
    · have h349 := h346.2 hc347
      refine wpc_sl (n := 3) (c' := 16) (pc' := 101) (ls' := [some (.ref 0), some (.int x1), some (.int x2), none, some (.int (gI s 1 (ix x2)))]) (st' := [.int x2, .int x1, .ref 0]) (s' := s) rfl ?_
      refine wpc_callV (m' := 36) (me' := cm36) (as := [.int x1, .int x2]) (r := []) rfl rfl rfl rfl rfl ⟨by decide, (by first | decide | exact Nat.le_of_ble_eq_true rfl), (by first | decide | exact Nat.le_of_ble_eq_true rfl), rfl⟩ (calV.mono h349 fun s350 h352 => ?_)
      refine wpc_sl (n := 1) (c' := 16) (pc' := 105) (ls' := [some (.ref 0), some (.int x1), some (.int x2), none, some (.int (gI s 1 (ix x2)))]) (st' := [.int (1 : Int32)]) (s' := s350) rfl ?_
      exact wpc_ret rfl rfl (fun q => absurd q (by decide)) rfl ⟨(1 : Int32), rfl, h352⟩
theorem c34_89 (x1 : Int32) (x2 : Int32) (s : St) (Q : Int32 → St → Prop) (h : calV PP 35 16 [.ref 0, .int x1, .int x2] s (fun s353 => Q (1 : Int32) s353)) : wpcI PP 34 cm34 16 89 [some (.ref 0), some (.int x1), some (.int x2), none, none] [] s Q := by
  refine wpc_sl (n := 3) (c' := 16) (pc' := 92) (ls' := [some (.ref 0), some (.int x1), some (.int x2), none, none]) (st' := [.int x2, .int x1, .ref 0]) (s' := s) rfl ?_
  refine wpc_callV (m' := 35) (me' := cm35) (as := [.int x1, .int x2]) (r := []) rfl rfl rfl rfl rfl ⟨by decide, (by first | decide | exact Nat.le_of_ble_eq_true rfl), (by first | decide | exact Nat.le_of_ble_eq_true rfl), rfl⟩ (calV.mono h fun s353 h355 => ?_)
  refine wpc_sl (n := 2) (c' := 16) (pc' := 105) (ls' := [some (.ref 0), some (.int x1), some (.int x2), none, none]) (st' := [.int (1 : Int32)]) (s' := s353) rfl ?_
  exact wpc_ret rfl rfl (fun q => absurd q (by decide)) rfl ⟨(1 : Int32), rfl, h355⟩
theorem c5_in (a1 : Int32) (a2 : Int32) (s : St) (Q : Int32 → St → Prop) (h : calI PP 25 16 [.ref 0, .int a1] s (fun v280 s279 => ((v280 = (0 : Int32)) → Q (0 : Int32) s279) ∧ (¬ (v280 = (0 : Int32)) → calI PP 22 16 [.ref 0, .int a2] s279 (fun v286 s285 => ((v286 = (0 : Int32)) → Q (0 : Int32) s285) ∧ (¬ (v286 = (0 : Int32)) → inb 32 a1 ∧ calV PP 33 16 [.ref 0, .int a1] s285 (fun s292 => calI PP 34 16 [.ref 0, .int a2, .int (gI s285 9 (ix a1))] s292 (fun v296 s295 => Q (1 : Int32) s295))))))) : calI PP 5 16 [.ref 0, .int a1, .int a2] s Q := by
  refine cal_of (me := cm5) (ls := [some (.ref 0), some (.int a1), some (.int a2), none]) rfl (Nat.le_of_ble_eq_true rfl) rfl ?_
  refine wpc_sl (n := 2) (c' := 16) (pc' := 2) (ls' := [some (.ref 0), some (.int a1), some (.int a2), none]) (st' := [.int a1, .ref 0]) (s' := s) rfl ?_
  refine wpc_callI (m' := 25) (me' := cm25) (as := [.int a1]) (r := []) rfl rfl rfl rfl rfl ⟨by decide, (by first | decide | exact Nat.le_of_ble_eq_true rfl), (by first | decide | exact Nat.le_of_ble_eq_true rfl), rfl⟩ (calI.mono h fun v280 s279 h281 => ?_)
  refine wpc_if (a := 10) (b := 8) rfl (by decide) rfl rfl (wpc_br (p := v280 = (0 : Int32)) ⟨fun hc282 => ?_, fun hc282 => ?_⟩)
  · have h283 := h281.1 hc282
    refine wpc_sl (n := 1) (c' := 16) (pc' := 9) (ls' := [some (.ref 0), some (.int a1), some (.int a2), none]) (st' := [.int (0 : Int32)]) (s' := s279) rfl ?_
    exact wpc_ret rfl rfl (fun q => absurd q (by decide)) rfl ⟨(0 : Int32), rfl, h283⟩
  · have h284 := h281.2 hc282
    refine wpc_sl (n := 2) (c' := 16) (pc' := 12) (ls' := [some (.ref 0), some (.int a1), some (.int a2), none]) (st' := [.int a2, .ref 0]) (s' := s279) rfl ?_
    refine wpc_callI (m' := 22) (me' := cm22) (as := [.int a2]) (r := []) rfl rfl rfl rfl rfl ⟨by decide, (by first | decide | exact Nat.le_of_ble_eq_true rfl), (by first | decide | exact Nat.le_of_ble_eq_true rfl), rfl⟩ (calI.mono h284 fun v286 s285 h287 => ?_)
    refine wpc_if (a := 20) (b := 18) rfl (by decide) rfl rfl (wpc_br (p := v286 = (0 : Int32)) ⟨fun hc288 => ?_, fun hc288 => ?_⟩)
    · have h289 := h287.1 hc288
      refine wpc_sl (n := 1) (c' := 16) (pc' := 19) (ls' := [some (.ref 0), some (.int a1), some (.int a2), none]) (st' := [.int (0 : Int32)]) (s' := s285) rfl ?_
      exact wpc_ret rfl rfl (fun q => absurd q (by decide)) rfl ⟨(0 : Int32), rfl, h289⟩
    · have h290 := h287.2 hc288
      refine wpc_sl (n := 3) (c' := 16) (pc' := 25) (ls' := [some (.ref 0), some (.int a1), some (.int a2), none]) (st' := [.int a1, .ref 9]) (s' := s285) rfl ?_
      refine wpc_ldaI (a := 8) (N := 32) (v := (gI s285 9 (ix a1))) rfl rfl (by decide) h290.1 rfl ?_
      have h291 := h290.2
      refine wpc_sl (n := 3) (c' := 16) (pc' := 29) (ls' := [some (.ref 0), some (.int a1), some (.int a2), some (.int (gI s285 9 (ix a1)))]) (st' := [.int a1, .ref 0]) (s' := s285) rfl ?_
      refine wpc_callV (m' := 33) (me' := cm33) (as := [.int a1]) (r := []) rfl rfl rfl rfl rfl ⟨by decide, (by first | decide | exact Nat.le_of_ble_eq_true rfl), (by first | decide | exact Nat.le_of_ble_eq_true rfl), rfl⟩ (calV.mono h291 fun s292 h294 => ?_)
      refine wpc_sl (n := 3) (c' := 16) (pc' := 35) (ls' := [some (.ref 0), some (.int a1), some (.int a2), some (.int (gI s285 9 (ix a1)))]) (st' := [.int (gI s285 9 (ix a1)), .int a2, .ref 0]) (s' := s292) rfl ?_
      refine wpc_callI (m' := 34) (me' := cm34) (as := [.int a2, .int (gI s285 9 (ix a1))]) (r := []) rfl rfl rfl rfl rfl ⟨by decide, (by first | decide | exact Nat.le_of_ble_eq_true rfl), (by first | decide | exact Nat.le_of_ble_eq_true rfl), rfl⟩ (calI.mono h294 fun v296 s295 h297 => ?_)
      refine wpc_sl (n := 2) (c' := 16) (pc' := 40) (ls' := [some (.ref 0), some (.int a1), some (.int a2), some (.int (gI s285 9 (ix a1)))]) (st' := [.int (1 : Int32)]) (s' := s295) rfl ?_
      exact wpc_ret rfl rfl (fun q => absurd q (by decide)) rfl ⟨(1 : Int32), rfl, h297⟩
theorem c32_in (a1 : Int32) (s : St) (Q : St → Prop) (h : (((gI s 0 40) < (gI s 0 30)) → inb 32 (gI s 0 40) ∧ Q (sI (sI s 9 (ix (gI s 0 40)) a1) 0 40 ((gI s 0 40) + (1 : Int32)))) ∧ (¬ ((gI s 0 40) < (gI s 0 30)) → Q s)) : calV PP 32 16 [.ref 0, .int a1] s Q := by
  refine cal_of (me := cm32) (ls := [some (.ref 0), some (.int a1)]) rfl (Nat.le_of_ble_eq_true rfl) rfl ?_
  refine wpc_sl (n := 4) (c' := 16) (pc' := 8) (ls' := [some (.ref 0), some (.int a1)]) (st' := [.int (gI s 0 30), .int (gI s 0 40)]) (s' := s) rfl ?_
  refine wpc_icmp (a := 12) (b := 11) rfl (by decide) rfl rfl (wpc_br (p := (gI s 0 40) < (gI s 0 30)) ⟨fun hc549 => ?_, fun hc549 => ?_⟩)
  · have h550 := h.1 hc549
    refine wpc_sl (n := 5) (c' := 16) (pc' := 21) (ls' := [some (.ref 0), some (.int a1)]) (st' := [.int a1, .int (gI s 0 40), .ref 9]) (s' := s) rfl ?_
    refine wpc_staI (a := 8) (N := 32) (s' := (sI s 9 (ix (gI s 0 40)) a1)) rfl rfl (by decide) h550.1 rfl ?_
    have h552 := h550.2
    refine wpc_sl (n := 6) (c' := 16) (pc' := 32) (ls' := [some (.ref 0), some (.int a1)]) (st' := []) (s' := (sI (sI s 9 (ix (gI s 0 40)) a1) 0 40 ((gI s 0 40) + (1 : Int32)))) rfl ?_
    exact wpc_ret rfl rfl (fun q => absurd q (by decide)) rfl ⟨rfl, h552⟩
  · have h551 := h.2 hc549
    exact wpc_ret rfl rfl (fun q => absurd q (by decide)) rfl ⟨rfl, h551⟩
theorem c6_in (a1 : Int32) (s : St) (Q : Int32 → St → Prop) (h : calI PP 25 16 [.ref 0, .int a1] s (fun v537 s536 => ((v537 = (0 : Int32)) → Q (0 : Int32) s536) ∧ (¬ (v537 = (0 : Int32)) → (((gI s536 0 40) < (gI s536 0 30)) → inb 32 a1 ∧ calV PP 32 16 [.ref 0, .int (gI s536 9 (ix a1))] s536 (fun s546 => Q (1 : Int32) s546)) ∧ (¬ ((gI s536 0 40) < (gI s536 0 30)) → Q (0 : Int32) s536)))) : calI PP 6 16 [.ref 0, .int a1] s Q := by
  refine cal_of (me := cm6) (ls := [some (.ref 0), some (.int a1)]) rfl (Nat.le_of_ble_eq_true rfl) rfl ?_
  refine wpc_sl (n := 2) (c' := 16) (pc' := 2) (ls' := [some (.ref 0), some (.int a1)]) (st' := [.int a1, .ref 0]) (s' := s) rfl ?_
  refine wpc_callI (m' := 25) (me' := cm25) (as := [.int a1]) (r := []) rfl rfl rfl rfl rfl ⟨by decide, (by first | decide | exact Nat.le_of_ble_eq_true rfl), (by first | decide | exact Nat.le_of_ble_eq_true rfl), rfl⟩ (calI.mono h fun v537 s536 h538 => ?_)
  refine wpc_if (a := 10) (b := 8) rfl (by decide) rfl rfl (wpc_br (p := v537 = (0 : Int32)) ⟨fun hc539 => ?_, fun hc539 => ?_⟩)
  · have h540 := h538.1 hc539
    refine wpc_sl (n := 1) (c' := 16) (pc' := 9) (ls' := [some (.ref 0), some (.int a1)]) (st' := [.int (0 : Int32)]) (s' := s536) rfl ?_
    exact wpc_ret rfl rfl (fun q => absurd q (by decide)) rfl ⟨(0 : Int32), rfl, h540⟩
  · have h541 := h538.2 hc539
    refine wpc_sl (n := 4) (c' := 16) (pc' := 18) (ls' := [some (.ref 0), some (.int a1)]) (st' := [.int (gI s536 0 30), .int (gI s536 0 40)]) (s' := s536) rfl ?_
    refine wpc_icmp (a := 23) (b := 21) rfl (by decide) rfl rfl (wpc_br (p := (gI s536 0 40) < (gI s536 0 30)) ⟨fun hc542 => ?_, fun hc542 => ?_⟩)
    · have h543 := h541.1 hc542
      refine wpc_sl (n := 4) (c' := 16) (pc' := 29) (ls' := [some (.ref 0), some (.int a1)]) (st' := [.int a1, .ref 9, .ref 0]) (s' := s536) rfl ?_
      refine wpc_ldaI (a := 8) (N := 32) (v := (gI s536 9 (ix a1))) rfl rfl (by decide) h543.1 rfl ?_
      have h545 := h543.2
      refine wpc_callV (m' := 32) (me' := cm32) (as := [.int (gI s536 9 (ix a1))]) (r := []) rfl rfl rfl rfl rfl ⟨by decide, (by first | decide | exact Nat.le_of_ble_eq_true rfl), (by first | decide | exact Nat.le_of_ble_eq_true rfl), rfl⟩ (calV.mono h545 fun s546 h548 => ?_)
      refine wpc_sl (n := 1) (c' := 16) (pc' := 34) (ls' := [some (.ref 0), some (.int a1)]) (st' := [.int (1 : Int32)]) (s' := s546) rfl ?_
      exact wpc_ret rfl rfl (fun q => absurd q (by decide)) rfl ⟨(1 : Int32), rfl, h548⟩
    · have h544 := h541.2 hc542
      refine wpc_sl (n := 1) (c' := 16) (pc' := 22) (ls' := [some (.ref 0), some (.int a1)]) (st' := [.int (0 : Int32)]) (s' := s536) rfl ?_
      exact wpc_ret rfl rfl (fun q => absurd q (by decide)) rfl ⟨(0 : Int32), rfl, h544⟩
theorem c7_in (a1 : Int32) (s : St) (Q : Int32 → St → Prop) (h : calI PP 25 16 [.ref 0, .int a1] s (fun v554 s553 => ((v554 = (0 : Int32)) → Q (0 : Int32) s553) ∧ (¬ (v554 = (0 : Int32)) → calV PP 33 16 [.ref 0, .int a1] s553 (fun s559 => Q (1 : Int32) s559)))) : calI PP 7 16 [.ref 0, .int a1] s Q := by
  refine cal_of (me := cm7) (ls := [some (.ref 0), some (.int a1)]) rfl (Nat.le_of_ble_eq_true rfl) rfl ?_
  refine wpc_sl (n := 2) (c' := 16) (pc' := 2) (ls' := [some (.ref 0), some (.int a1)]) (st' := [.int a1, .ref 0]) (s' := s) rfl ?_
  refine wpc_callI (m' := 25) (me' := cm25) (as := [.int a1]) (r := []) rfl rfl rfl rfl rfl ⟨by decide, (by first | decide | exact Nat.le_of_ble_eq_true rfl), (by first | decide | exact Nat.le_of_ble_eq_true rfl), rfl⟩ (calI.mono h fun v554 s553 h555 => ?_)
  refine wpc_if (a := 10) (b := 8) rfl (by decide) rfl rfl (wpc_br (p := v554 = (0 : Int32)) ⟨fun hc556 => ?_, fun hc556 => ?_⟩)
  · have h557 := h555.1 hc556
    refine wpc_sl (n := 1) (c' := 16) (pc' := 9) (ls' := [some (.ref 0), some (.int a1)]) (st' := [.int (0 : Int32)]) (s' := s553) rfl ?_
    exact wpc_ret rfl rfl (fun q => absurd q (by decide)) rfl ⟨(0 : Int32), rfl, h557⟩
  · have h558 := h555.2 hc556
    refine wpc_sl (n := 2) (c' := 16) (pc' := 12) (ls' := [some (.ref 0), some (.int a1)]) (st' := [.int a1, .ref 0]) (s' := s553) rfl ?_
    refine wpc_callV (m' := 33) (me' := cm33) (as := [.int a1]) (r := []) rfl rfl rfl rfl rfl ⟨by decide, (by first | decide | exact Nat.le_of_ble_eq_true rfl), (by first | decide | exact Nat.le_of_ble_eq_true rfl), rfl⟩ (calV.mono h558 fun s559 h561 => ?_)
    refine wpc_sl (n := 1) (c' := 16) (pc' := 16) (ls' := [some (.ref 0), some (.int a1)]) (st' := [.int (1 : Int32)]) (s' := s559) rfl ?_
    exact wpc_ret rfl rfl (fun q => absurd q (by decide)) rfl ⟨(1 : Int32), rfl, h561⟩
theorem l3W1_in (N : Nat) (sg : Nat → Int32) (a0 : Int32) (a1 : Int64) (a2 : Int64) (a3 : Int64) (a4 : Int64) (s : St) (Q : Int64 → Wd → Prop) (h : ((a0 = (0 : Int32)) → Q a1 (W1 s)) ∧ (¬ (a0 = (0 : Int32)) → ((a0 = (1 : Int32)) → Q a2 (W1 s)) ∧ (¬ (a0 = (1 : Int32)) → ((a0 = (2 : Int32)) → Q a3 (W1 s)) ∧ (¬ (a0 = (2 : Int32)) → Q a4 (W1 s))))) : lalL PP QQ (some (N, sg)) 3 [.int a0, .long a1, .long a2, .long a3, .long a4] (W1 s) Q := by
  refine lal_of (me := lm3) (ls := [some (.int a0), some (.long a1), none, some (.long a2), none, some (.long a3), none, some (.long a4), none]) rfl (Nat.le_of_ble_eq_true rfl) rfl ?_
  refine wpl_sl (n := 1) (pc' := 1) (ls' := [some (.int a0), some (.long a1), none, some (.long a2), none, some (.long a3), none, some (.long a4), none]) (st' := [.int a0]) rfl ?_
  refine wpl_if (a := 8) (b := 4) rfl (by decide) rfl rfl (wpl_br (p := a0 = (0 : Int32)) ⟨fun hc562 => ?_, fun hc562 => ?_⟩)
  · have h563 := h.1 hc562
    refine wpl_sl (n := 2) (pc' := 29) (ls' := [some (.int a0), some (.long a1), none, some (.long a2), none, some (.long a3), none, some (.long a4), none]) (st' := [.long a1]) rfl ?_
    exact wpl_ret rfl rfl rfl ⟨a1, rfl, h563⟩
  · have h564 := h.2 hc562
    refine wpl_sl (n := 2) (pc' := 10) (ls' := [some (.int a0), some (.long a1), none, some (.long a2), none, some (.long a3), none, some (.long a4), none]) (st' := [.int (1 : Int32), .int a0]) rfl ?_
    refine wpl_icmp (a := 17) (b := 13) rfl (by decide) rfl rfl (wpl_br (p := a0 = (1 : Int32)) ⟨fun hc565 => ?_, fun hc565 => ?_⟩)
    · have h566 := h564.1 hc565
      refine wpl_sl (n := 2) (pc' := 29) (ls' := [some (.int a0), some (.long a1), none, some (.long a2), none, some (.long a3), none, some (.long a4), none]) (st' := [.long a2]) rfl ?_
      exact wpl_ret rfl rfl rfl ⟨a2, rfl, h566⟩
    · have h567 := h564.2 hc565
      refine wpl_sl (n := 2) (pc' := 19) (ls' := [some (.int a0), some (.long a1), none, some (.long a2), none, some (.long a3), none, some (.long a4), none]) (st' := [.int (2 : Int32), .int a0]) rfl ?_
      refine wpl_icmp (a := 27) (b := 22) rfl (by decide) rfl rfl (wpl_br (p := a0 = (2 : Int32)) ⟨fun hc568 => ?_, fun hc568 => ?_⟩)
      · have h569 := h567.1 hc568
        refine wpl_sl (n := 2) (pc' := 29) (ls' := [some (.int a0), some (.long a1), none, some (.long a2), none, some (.long a3), none, some (.long a4), none]) (st' := [.long a3]) rfl ?_
        exact wpl_ret rfl rfl rfl ⟨a3, rfl, h569⟩
      · have h570 := h567.2 hc568
        refine wpl_sl (n := 1) (pc' := 29) (ls' := [some (.int a0), some (.long a1), none, some (.long a2), none, some (.long a3), none, some (.long a4), none]) (st' := [.long a4]) rfl ?_
        exact wpl_ret rfl rfl rfl ⟨a4, rfl, h570⟩
theorem c8_in (a1 : Int32) (a2 : Int32) (s : St) (Q : Int32 → St → Prop) (h : calI PP 22 16 [.ref 0, .int a1] s (fun v572 s571 => ((v572 = (0 : Int32)) → Q (-1 : Int32) s571) ∧ (¬ (v572 = (0 : Int32)) → calI PP 22 16 [.ref 0, .int a2] s571 (fun v578 s577 => ((v578 = (0 : Int32)) → Q (-1 : Int32) s577) ∧ (¬ (v578 = (0 : Int32)) → ((a1 = a2) → Q (-1 : Int32) s577) ∧ (¬ (a1 = a2) → wpcI PP 8 cm8 16 32 [some (.ref 0), some (.int a1), some (.int a2), some (.int (0 : Int32)), some (.int (0 : Int32))] [] s577 Q)))))) : calI PP 8 16 [.ref 0, .int a1, .int a2] s Q := by
  refine cal_of (me := cm8) (ls := [some (.ref 0), some (.int a1), some (.int a2), none, none]) rfl (Nat.le_of_ble_eq_true rfl) rfl ?_
  refine wpc_sl (n := 2) (c' := 16) (pc' := 2) (ls' := [some (.ref 0), some (.int a1), some (.int a2), none, none]) (st' := [.int a1, .ref 0]) (s' := s) rfl ?_
  refine wpc_callI (m' := 22) (me' := cm22) (as := [.int a1]) (r := []) rfl rfl rfl rfl rfl ⟨by decide, (by first | decide | exact Nat.le_of_ble_eq_true rfl), (by first | decide | exact Nat.le_of_ble_eq_true rfl), rfl⟩ (calI.mono h fun v572 s571 h573 => ?_)
  refine wpc_if (a := 10) (b := 8) rfl (by decide) rfl rfl (wpc_br (p := v572 = (0 : Int32)) ⟨fun hc574 => ?_, fun hc574 => ?_⟩)
  · have h575 := h573.1 hc574
    refine wpc_sl (n := 1) (c' := 16) (pc' := 9) (ls' := [some (.ref 0), some (.int a1), some (.int a2), none, none]) (st' := [.int (-1 : Int32)]) (s' := s571) rfl ?_
    exact wpc_ret rfl rfl (fun q => absurd q (by decide)) rfl ⟨(-1 : Int32), rfl, h575⟩
  · have h576 := h573.2 hc574
    refine wpc_sl (n := 2) (c' := 16) (pc' := 12) (ls' := [some (.ref 0), some (.int a1), some (.int a2), none, none]) (st' := [.int a2, .ref 0]) (s' := s571) rfl ?_
    refine wpc_callI (m' := 22) (me' := cm22) (as := [.int a2]) (r := []) rfl rfl rfl rfl rfl ⟨by decide, (by first | decide | exact Nat.le_of_ble_eq_true rfl), (by first | decide | exact Nat.le_of_ble_eq_true rfl), rfl⟩ (calI.mono h576 fun v578 s577 h579 => ?_)
    refine wpc_if (a := 20) (b := 18) rfl (by decide) rfl rfl (wpc_br (p := v578 = (0 : Int32)) ⟨fun hc580 => ?_, fun hc580 => ?_⟩)
    · have h581 := h579.1 hc580
      refine wpc_sl (n := 1) (c' := 16) (pc' := 19) (ls' := [some (.ref 0), some (.int a1), some (.int a2), none, none]) (st' := [.int (-1 : Int32)]) (s' := s577) rfl ?_
      exact wpc_ret rfl rfl (fun q => absurd q (by decide)) rfl ⟨(-1 : Int32), rfl, h581⟩
    · have h582 := h579.2 hc580
      refine wpc_sl (n := 2) (c' := 16) (pc' := 22) (ls' := [some (.ref 0), some (.int a1), some (.int a2), none, none]) (st' := [.int a2, .int a1]) (s' := s577) rfl ?_
      refine wpc_icmp (a := 27) (b := 25) rfl (by decide) rfl rfl (wpc_br (p := a1 = a2) ⟨fun hc583 => ?_, fun hc583 => ?_⟩)
      · have h584 := h582.1 hc583
        refine wpc_sl (n := 1) (c' := 16) (pc' := 26) (ls' := [some (.ref 0), some (.int a1), some (.int a2), none, none]) (st' := [.int (-1 : Int32)]) (s' := s577) rfl ?_
        exact wpc_ret rfl rfl (fun q => absurd q (by decide)) rfl ⟨(-1 : Int32), rfl, h584⟩
      · have h585 := h582.2 hc583
        refine wpc_sl (n := 4) (c' := 16) (pc' := 32) (ls' := [some (.ref 0), some (.int a1), some (.int a2), some (.int (0 : Int32)), some (.int (0 : Int32))]) (st' := []) (s' := s577) rfl ?_
        exact h585
theorem c8_32 (x1 : Int32) (x2 : Int32) (x3 : Int32) (x4 : Int32) (s : St) (Q : Int32 → St → Prop) (h : ((x4 < (gI s 0 31)) → calI PP 47 16 [.ref 0, .int x1, .int x4] s (fun v590 s589 => inb 256 v590 ∧ (((gI s589 12 (ix v590)) = (0 : Int32)) → wpcI PP 8 cm8 16 72 [some (.ref 0), some (.int x1), some (.int x2), some (.int x3), some (.int x4)] [] s589 Q) ∧ (¬ ((gI s589 12 (ix v590)) = (0 : Int32)) → calI PP 34 16 [.ref 0, .int x2, .int x4] s589 (fun v597 s596 => ∀ m599, m599 = (if v597 = (0 : Int32) then x3 else (x3 + (1 : Int32))) → (wpcI PP 8 cm8 16 72 [some (.ref 0), some (.int x1), some (.int x2), some (.int m599), some (.int x4)] [] s596 Q))))) ∧ (¬ (x4 < (gI s 0 31)) → Q x3 s)) : wpcI PP 8 cm8 16 32 [some (.ref 0), some (.int x1), some (.int x2), some (.int x3), some (.int x4)] [] s Q := by
  refine wpc_sl (n := 3) (c' := 16) (pc' := 38) (ls' := [some (.ref 0), some (.int x1), some (.int x2), some (.int x3), some (.int x4)]) (st' := [.int (gI s 0 31), .int x4]) (s' := s) rfl ?_
  refine wpc_icmp (a := 78) (b := 41) rfl (by decide) rfl rfl (wpc_br (p := x4 < (gI s 0 31)) ⟨fun hc586 => ?_, fun hc586 => ?_⟩)
  · have h587 := h.1 hc586
    refine wpc_sl (n := 5) (c' := 16) (pc' := 49) (ls' := [some (.ref 0), some (.int x1), some (.int x2), some (.int x3), some (.int x4)]) (st' := [.int x4, .int x1, .ref 0, .ref 12]) (s' := s) rfl ?_
    refine wpc_callI (m' := 47) (me' := cm47) (as := [.int x1, .int x4]) (r := [.ref 12]) rfl rfl rfl rfl rfl ⟨by decide, (by first | decide | exact Nat.le_of_ble_eq_true rfl), (by first | decide | exact Nat.le_of_ble_eq_true rfl), rfl⟩ (calI.mono h587 fun v590 s589 h591 => ?_)
    refine wpc_ldaZ (a := 11) (N := 256) (v := (gI s589 12 (ix v590))) rfl rfl (by decide) h591.1 rfl ?_
    have h592 := h591.2
    refine wpc_if (a := 59) (b := 56) rfl (by decide) rfl rfl (wpc_br (p := (gI s589 12 (ix v590)) = (0 : Int32)) ⟨fun hc593 => ?_, fun hc593 => ?_⟩)
    · have h594 := h592.1 hc593
      refine wpc_sl (n := 1) (c' := 16) (pc' := 72) (ls' := [some (.ref 0), some (.int x1), some (.int x2), some (.int x3), some (.int x4)]) (st' := []) (s' := s589) rfl ?_
      exact h594
    · have h595 := h592.2 hc593
      refine wpc_sl (n := 3) (c' := 16) (pc' := 63) (ls' := [some (.ref 0), some (.int x1), some (.int x2), some (.int x3), some (.int x4)]) (st' := [.int x4, .int x2, .ref 0]) (s' := s589) rfl ?_
      refine wpc_callI (m' := 34) (me' := cm34) (as := [.int x2, .int x4]) (r := []) rfl rfl rfl rfl rfl ⟨by decide, (by first | decide | exact Nat.le_of_ble_eq_true rfl), (by first | decide | exact Nat.le_of_ble_eq_true rfl), rfl⟩ (calI.mono h595 fun v597 s596 h598 => ?_)
      have hm600 : ∀ m599, m599 = (if v597 = (0 : Int32) then x3 else (x3 + (1 : Int32))) → wpcI PP 8 cm8 16 72 [some (.ref 0), some (.int x1), some (.int x2), some (.int m599), some (.int x4)] [] s596 Q := by
        intro m599 em599
        have h601 := h598 m599 em599
        exact h601
      refine wpc_if (a := 72) (b := 69) rfl (by decide) rfl rfl (wpc_br (p := v597 = (0 : Int32)) ⟨fun hc602 => ?_, fun hc602 => ?_⟩)
      · first | exact hm600 _ (by simp only [if_pos hc602]) | exact wpc_lle (by repeat (first | exact trivial | refine ⟨rfl, ?_⟩)) (hm600 _ (by simp only [if_pos hc602]))
      · refine wpc_sl (n := 1) (c' := 16) (pc' := 72) (ls' := [some (.ref 0), some (.int x1), some (.int x2), some (.int (x3 + (1 : Int32))), some (.int x4)]) (st' := []) (s' := s596) rfl ?_
        first | exact hm600 _ (by simp only [if_neg hc602]) | exact wpc_lle (by repeat (first | exact trivial | refine ⟨rfl, ?_⟩)) (hm600 _ (by simp only [if_neg hc602]))
  · have h588 := h.2 hc586
    refine wpc_sl (n := 1) (c' := 16) (pc' := 79) (ls' := [some (.ref 0), some (.int x1), some (.int x2), some (.int x3), some (.int x4)]) (st' := [.int x3]) (s' := s) rfl ?_
    exact wpc_ret rfl rfl (fun q => absurd q (by decide)) rfl ⟨x3, rfl, h588⟩
theorem c8_72 (x1 : Int32) (x2 : Int32) (x3 : Int32) (x4 : Int32) (s : St) (Q : Int32 → St → Prop) (h : wpcI PP 8 cm8 16 32 [some (.ref 0), some (.int x1), some (.int x2), some (.int x3), some (.int (x4 + (1 : Int32)))] [] s Q) : wpcI PP 8 cm8 16 72 [some (.ref 0), some (.int x1), some (.int x2), some (.int x3), some (.int x4)] [] s Q := by
  refine wpc_sl (n := 2) (c' := 16) (pc' := 32) (ls' := [some (.ref 0), some (.int x1), some (.int x2), some (.int x3), some (.int (x4 + (1 : Int32)))]) (st' := []) (s' := s) rfl ?_
  exact h
theorem l4W1_in (N : Nat) (sg : Nat → Int32) (a0 : Int64) (s : St) (Q : Int32 → Wd → Prop) (h : wplI PP QQ (some (N, sg)) 4 lm4 4 [some (.long a0), none, some (.int (0 : Int32)), some (.int (0 : Int32))] [] (W1 s) Q) : lalI PP QQ (some (N, sg)) 4 [.long a0] (W1 s) Q := by
  refine lal_of (me := lm4) (ls := [some (.long a0), none, none, none]) rfl (Nat.le_of_ble_eq_true rfl) rfl ?_
  refine wpl_sl (n := 4) (pc' := 4) (ls' := [some (.long a0), none, some (.int (0 : Int32)), some (.int (0 : Int32))]) (st' := []) rfl ?_
  exact h
theorem l4W1_4 (N : Nat) (sg : Nat → Int32) (x0 : Int64) (x2 : Int32) (x3 : Int32) (s : St) (Q : Int32 → Wd → Prop) (h : ((x3 < (64 : Int32)) → ∀ m606, m606 = (if (XT.cmpL ((XT.ushrL x0 x3) &&& (1 : Int64)) (0 : Int64)) = (0 : Int32) then x2 else (x2 + (1 : Int32))) → (wplI PP QQ (some (N, sg)) 4 lm4 4 [some (.long x0), none, some (.int m606), some (.int (x3 + (1 : Int32)))] [] (W1 s) Q)) ∧ (¬ (x3 < (64 : Int32)) → Q x2 (W1 s))) : wplI PP QQ (some (N, sg)) 4 lm4 4 [some (.long x0), none, some (.int x2), some (.int x3)] [] (W1 s) Q := by
  refine wpl_sl (n := 2) (pc' := 7) (ls' := [some (.long x0), none, some (.int x2), some (.int x3)]) (st' := [.int (64 : Int32), .int x3]) rfl ?_
  refine wpl_icmp (a := 29) (b := 10) rfl (by decide) rfl rfl (wpl_br (p := x3 < (64 : Int32)) ⟨fun hc603 => ?_, fun hc603 => ?_⟩)
  · have h604 := h.1 hc603
    refine wpl_sl (n := 7) (pc' := 17) (ls' := [some (.long x0), none, some (.int x2), some (.int x3)]) (st' := [.int (XT.cmpL ((XT.ushrL x0 x3) &&& (1 : Int64)) (0 : Int64))]) rfl ?_
    have hm607 : ∀ m606, m606 = (if (XT.cmpL ((XT.ushrL x0 x3) &&& (1 : Int64)) (0 : Int64)) = (0 : Int32) then x2 else (x2 + (1 : Int32))) → wplI PP QQ (some (N, sg)) 4 lm4 23 [some (.long x0), none, some (.int m606), some (.int x3)] [] (W1 s) Q := by
      intro m606 em606
      have h608 := h604 m606 em606
      refine wpl_sl (n := 2) (pc' := 4) (ls' := [some (.long x0), none, some (.int m606), some (.int (x3 + (1 : Int32)))]) (st' := []) rfl ?_
      exact h608
    refine wpl_if (a := 23) (b := 20) rfl (by decide) rfl rfl (wpl_br (p := (XT.cmpL ((XT.ushrL x0 x3) &&& (1 : Int64)) (0 : Int64)) = (0 : Int32)) ⟨fun hc609 => ?_, fun hc609 => ?_⟩)
    · first | exact hm607 _ (by simp only [if_pos hc609]) | exact wpl_lle (by repeat (first | exact trivial | refine ⟨rfl, ?_⟩)) (hm607 _ (by simp only [if_pos hc609]))
    · refine wpl_sl (n := 1) (pc' := 23) (ls' := [some (.long x0), none, some (.int (x2 + (1 : Int32))), some (.int x3)]) (st' := []) rfl ?_
      first | exact hm607 _ (by simp only [if_neg hc609]) | exact wpl_lle (by repeat (first | exact trivial | refine ⟨rfl, ?_⟩)) (hm607 _ (by simp only [if_neg hc609]))
  · have h605 := h.2 hc603
    refine wpl_sl (n := 1) (pc' := 30) (ls' := [some (.long x0), none, some (.int x2), some (.int x3)]) (st' := [.int x2]) rfl ?_
    exact wpl_ret rfl rfl rfl ⟨x2, rfl, h605⟩
theorem c11_in (a1 : Int32) (s : St) (Q : Int32 → St → Prop) (h : calI PP 22 16 [.ref 0, .int a1] s (fun v611 s610 => ((v611 = (0 : Int32)) → Q (-1 : Int32) s610) ∧ (¬ (v611 = (0 : Int32)) → inb 4 a1 ∧ Q (gI s610 11 (ix a1)) s610))) : calI PP 11 16 [.ref 0, .int a1] s Q := by
  refine cal_of (me := cm11) (ls := [some (.ref 0), some (.int a1)]) rfl (Nat.le_of_ble_eq_true rfl) rfl ?_
  refine wpc_sl (n := 2) (c' := 16) (pc' := 2) (ls' := [some (.ref 0), some (.int a1)]) (st' := [.int a1, .ref 0]) (s' := s) rfl ?_
  refine wpc_callI (m' := 22) (me' := cm22) (as := [.int a1]) (r := []) rfl rfl rfl rfl rfl ⟨by decide, (by first | decide | exact Nat.le_of_ble_eq_true rfl), (by first | decide | exact Nat.le_of_ble_eq_true rfl), rfl⟩ (calI.mono h fun v611 s610 h612 => ?_)
  refine wpc_if (a := 10) (b := 8) rfl (by decide) rfl rfl (wpc_br (p := v611 = (0 : Int32)) ⟨fun hc613 => ?_, fun hc613 => ?_⟩)
  · have h614 := h612.1 hc613
    refine wpc_sl (n := 1) (c' := 16) (pc' := 9) (ls' := [some (.ref 0), some (.int a1)]) (st' := [.int (-1 : Int32)]) (s' := s610) rfl ?_
    exact wpc_ret rfl rfl (fun q => absurd q (by decide)) rfl ⟨(-1 : Int32), rfl, h614⟩
  · have h615 := h612.2 hc613
    refine wpc_sl (n := 3) (c' := 16) (pc' := 15) (ls' := [some (.ref 0), some (.int a1)]) (st' := [.int a1, .ref 11]) (s' := s610) rfl ?_
    refine wpc_ldaI (a := 10) (N := 4) (v := (gI s610 11 (ix a1))) rfl rfl (by decide) h615.1 rfl ?_
    have h616 := h615.2
    exact wpc_ret rfl rfl (fun q => absurd q (by decide)) rfl ⟨(gI s610 11 (ix a1)), rfl, h616⟩
theorem c16_in (a1 : Int32) (s : St) (Q : Int32 → St → Prop) (h : calI PP 22 16 [.ref 0, .int a1] s (fun v618 s617 => ((v618 = (0 : Int32)) → Q (-1 : Int32) s617) ∧ (¬ (v618 = (0 : Int32)) → inb 4 a1 ∧ Q (gI s617 10 (ix a1)) s617))) : calI PP 16 16 [.ref 0, .int a1] s Q := by
  refine cal_of (me := cm16) (ls := [some (.ref 0), some (.int a1)]) rfl (Nat.le_of_ble_eq_true rfl) rfl ?_
  refine wpc_sl (n := 2) (c' := 16) (pc' := 2) (ls' := [some (.ref 0), some (.int a1)]) (st' := [.int a1, .ref 0]) (s' := s) rfl ?_
  refine wpc_callI (m' := 22) (me' := cm22) (as := [.int a1]) (r := []) rfl rfl rfl rfl rfl ⟨by decide, (by first | decide | exact Nat.le_of_ble_eq_true rfl), (by first | decide | exact Nat.le_of_ble_eq_true rfl), rfl⟩ (calI.mono h fun v618 s617 h619 => ?_)
  refine wpc_if (a := 10) (b := 8) rfl (by decide) rfl rfl (wpc_br (p := v618 = (0 : Int32)) ⟨fun hc620 => ?_, fun hc620 => ?_⟩)
  · have h621 := h619.1 hc620
    refine wpc_sl (n := 1) (c' := 16) (pc' := 9) (ls' := [some (.ref 0), some (.int a1)]) (st' := [.int (-1 : Int32)]) (s' := s617) rfl ?_
    exact wpc_ret rfl rfl (fun q => absurd q (by decide)) rfl ⟨(-1 : Int32), rfl, h621⟩
  · have h622 := h619.2 hc620
    refine wpc_sl (n := 3) (c' := 16) (pc' := 15) (ls' := [some (.ref 0), some (.int a1)]) (st' := [.int a1, .ref 10]) (s' := s617) rfl ?_
    refine wpc_ldaI (a := 9) (N := 4) (v := (gI s617 10 (ix a1))) rfl rfl (by decide) h622.1 rfl ?_
    have h623 := h622.2
    exact wpc_ret rfl rfl (fun q => absurd q (by decide)) rfl ⟨(gI s617 10 (ix a1)), rfl, h623⟩
theorem c21_in  (s : St) (Q : Int32 → St → Prop) (h : (((gI s 0 31) < (gI s 0 29)) → (((gI s 0 40) < (gI s 0 30)) → Q (1 : Int32) s) ∧ (¬ ((gI s 0 40) < (gI s 0 30)) → Q (0 : Int32) s)) ∧ (¬ ((gI s 0 31) < (gI s 0 29)) → Q (0 : Int32) s)) : calI PP 21 16 [.ref 0] s Q := by
  refine cal_of (me := cm21) (ls := [some (.ref 0)]) rfl (Nat.le_of_ble_eq_true rfl) rfl ?_
  refine wpc_sl (n := 4) (c' := 16) (pc' := 8) (ls' := [some (.ref 0)]) (st' := [.int (gI s 0 29), .int (gI s 0 31)]) (s' := s) rfl ?_
  refine wpc_icmp (a := 13) (b := 11) rfl (by decide) rfl rfl (wpc_br (p := (gI s 0 31) < (gI s 0 29)) ⟨fun hc657 => ?_, fun hc657 => ?_⟩)
  · have h658 := h.1 hc657
    refine wpc_sl (n := 4) (c' := 16) (pc' := 21) (ls' := [some (.ref 0)]) (st' := [.int (gI s 0 30), .int (gI s 0 40)]) (s' := s) rfl ?_
    refine wpc_icmp (a := 28) (b := 24) rfl (by decide) rfl rfl (wpc_br (p := (gI s 0 40) < (gI s 0 30)) ⟨fun hc660 => ?_, fun hc660 => ?_⟩)
    · have h661 := h658.1 hc660
      refine wpc_sl (n := 2) (c' := 16) (pc' := 29) (ls' := [some (.ref 0)]) (st' := [.int (1 : Int32)]) (s' := s) rfl ?_
      exact wpc_ret rfl rfl (fun q => absurd q (by decide)) rfl ⟨(1 : Int32), rfl, h661⟩
    · have h662 := h658.2 hc660
      refine wpc_sl (n := 1) (c' := 16) (pc' := 29) (ls' := [some (.ref 0)]) (st' := [.int (0 : Int32)]) (s' := s) rfl ?_
      exact wpc_ret rfl rfl (fun q => absurd q (by decide)) rfl ⟨(0 : Int32), rfl, h662⟩
  · have h659 := h.2 hc657
    refine wpc_sl (n := 1) (c' := 16) (pc' := 12) (ls' := [some (.ref 0)]) (st' := [.int (0 : Int32)]) (s' := s) rfl ?_
    exact wpc_ret rfl rfl (fun q => absurd q (by decide)) rfl ⟨(0 : Int32), rfl, h659⟩
theorem c18_in (a1 : Int32) (a2 : Int32) (s : St) (Q : Int32 → St → Prop) (h : calI PP 22 16 [.ref 0, .int a1] s (fun v637 s636 => ((v637 = (0 : Int32)) → Q (0 : Int32) s636) ∧ (¬ (v637 = (0 : Int32)) → calI PP 23 16 [.ref 0, .int a2] s636 (fun v643 s642 => ((v643 = (0 : Int32)) → Q (0 : Int32) s642) ∧ (¬ (v643 = (0 : Int32)) → calI PP 38 16 [.ref 0, .int a1, .int a2] s642 (fun v649 s648 => ((v649 = (0 : Int32)) → calI PP 21 16 [.ref 0] s648 (fun v655 s654 => Q (v655 &&& 1) s654)) ∧ (¬ (v649 = (0 : Int32)) → Q (0 : Int32) s648))))))) : calI PP 18 16 [.ref 0, .int a1, .int a2] s Q := by
  refine cal_of (me := cm18) (ls := [some (.ref 0), some (.int a1), some (.int a2)]) rfl (Nat.le_of_ble_eq_true rfl) rfl ?_
  refine wpc_sl (n := 2) (c' := 16) (pc' := 2) (ls' := [some (.ref 0), some (.int a1), some (.int a2)]) (st' := [.int a1, .ref 0]) (s' := s) rfl ?_
  refine wpc_callI (m' := 22) (me' := cm22) (as := [.int a1]) (r := []) rfl rfl rfl rfl rfl ⟨by decide, (by first | decide | exact Nat.le_of_ble_eq_true rfl), (by first | decide | exact Nat.le_of_ble_eq_true rfl), rfl⟩ (calI.mono h fun v637 s636 h638 => ?_)
  refine wpc_if (a := 10) (b := 8) rfl (by decide) rfl rfl (wpc_br (p := v637 = (0 : Int32)) ⟨fun hc639 => ?_, fun hc639 => ?_⟩)
  · have h640 := h638.1 hc639
    refine wpc_sl (n := 1) (c' := 16) (pc' := 9) (ls' := [some (.ref 0), some (.int a1), some (.int a2)]) (st' := [.int (0 : Int32)]) (s' := s636) rfl ?_
    exact wpc_ret rfl rfl (fun q => absurd q (by decide)) rfl ⟨(0 : Int32), rfl, h640⟩
  · have h641 := h638.2 hc639
    refine wpc_sl (n := 2) (c' := 16) (pc' := 12) (ls' := [some (.ref 0), some (.int a1), some (.int a2)]) (st' := [.int a2, .ref 0]) (s' := s636) rfl ?_
    refine wpc_callI (m' := 23) (me' := cm23) (as := [.int a2]) (r := []) rfl rfl rfl rfl rfl ⟨by decide, (by first | decide | exact Nat.le_of_ble_eq_true rfl), (by first | decide | exact Nat.le_of_ble_eq_true rfl), rfl⟩ (calI.mono h641 fun v643 s642 h644 => ?_)
    refine wpc_if (a := 20) (b := 18) rfl (by decide) rfl rfl (wpc_br (p := v643 = (0 : Int32)) ⟨fun hc645 => ?_, fun hc645 => ?_⟩)
    · have h646 := h644.1 hc645
      refine wpc_sl (n := 1) (c' := 16) (pc' := 19) (ls' := [some (.ref 0), some (.int a1), some (.int a2)]) (st' := [.int (0 : Int32)]) (s' := s642) rfl ?_
      exact wpc_ret rfl rfl (fun q => absurd q (by decide)) rfl ⟨(0 : Int32), rfl, h646⟩
    · have h647 := h644.2 hc645
      refine wpc_sl (n := 3) (c' := 16) (pc' := 23) (ls' := [some (.ref 0), some (.int a1), some (.int a2)]) (st' := [.int a2, .int a1, .ref 0]) (s' := s642) rfl ?_
      refine wpc_callI (m' := 38) (me' := cm38) (as := [.int a1, .int a2]) (r := []) rfl rfl rfl rfl rfl ⟨by decide, (by first | decide | exact Nat.le_of_ble_eq_true rfl), (by first | decide | exact Nat.le_of_ble_eq_true rfl), rfl⟩ (calI.mono h647 fun v649 s648 h650 => ?_)
      refine wpc_if (a := 31) (b := 29) rfl (by decide) rfl rfl (wpc_br (p := v649 = (0 : Int32)) ⟨fun hc651 => ?_, fun hc651 => ?_⟩)
      · have h652 := h650.1 hc651
        refine wpc_sl (n := 1) (c' := 16) (pc' := 32) (ls' := [some (.ref 0), some (.int a1), some (.int a2)]) (st' := [.ref 0]) (s' := s648) rfl ?_
        refine wpc_callI (m' := 21) (me' := cm21) (as := []) (r := []) rfl rfl rfl rfl rfl ⟨by decide, (by first | decide | exact Nat.le_of_ble_eq_true rfl), (by first | decide | exact Nat.le_of_ble_eq_true rfl), rfl⟩ (calI.mono h652 fun v655 s654 h656 => ?_)
        exact wpc_ret rfl rfl (fun q => absurd q (by decide)) rfl ⟨(v655 &&& 1), rfl, h656⟩
      · have h653 := h650.2 hc651
        refine wpc_sl (n := 1) (c' := 16) (pc' := 30) (ls' := [some (.ref 0), some (.int a1), some (.int a2)]) (st' := [.int (0 : Int32)]) (s' := s648) rfl ?_
        exact wpc_ret rfl rfl (fun q => absurd q (by decide)) rfl ⟨(0 : Int32), rfl, h653⟩
theorem c27_in (a1 : Int32) (a2 : Int32) (a3 : Int32) (a4 : Int32) (s : St) (Q : St → Prop) (h : inb 64 a1 ∧ inb 64 a1 ∧ inb 64 a1 ∧ Q (sI (sI (sI s 4 (ix a1) a2) 5 (ix a1) a3) 6 (ix a1) a4)) : calV PP 27 16 [.ref 0, .int a1, .int a2, .int a3, .int a4] s Q := by
  refine cal_of (me := cm27) (ls := [some (.ref 0), some (.int a1), some (.int a2), some (.int a3), some (.int a4)]) rfl (Nat.le_of_ble_eq_true rfl) rfl ?_
  refine wpc_sl (n := 4) (c' := 16) (pc' := 6) (ls' := [some (.ref 0), some (.int a1), some (.int a2), some (.int a3), some (.int a4)]) (st' := [.int a2, .int a1, .ref 4]) (s' := s) rfl ?_
  refine wpc_staI (a := 3) (N := 64) (s' := (sI s 4 (ix a1) a2)) rfl rfl (by decide) h.1 rfl ?_
  have h673 := h.2
  refine wpc_sl (n := 4) (c' := 16) (pc' := 13) (ls' := [some (.ref 0), some (.int a1), some (.int a2), some (.int a3), some (.int a4)]) (st' := [.int a3, .int a1, .ref 5]) (s' := (sI s 4 (ix a1) a2)) rfl ?_
  refine wpc_staI (a := 4) (N := 64) (s' := (sI (sI s 4 (ix a1) a2) 5 (ix a1) a3)) rfl rfl (by decide) h673.1 rfl ?_
  have h674 := h673.2
  refine wpc_sl (n := 4) (c' := 16) (pc' := 21) (ls' := [some (.ref 0), some (.int a1), some (.int a2), some (.int a3), some (.int a4)]) (st' := [.int a4, .int a1, .ref 6]) (s' := (sI (sI s 4 (ix a1) a2) 5 (ix a1) a3)) rfl ?_
  refine wpc_staI (a := 5) (N := 64) (s' := (sI (sI (sI s 4 (ix a1) a2) 5 (ix a1) a3) 6 (ix a1) a4)) rfl rfl (by decide) h674.1 rfl ?_
  have h675 := h674.2
  exact wpc_ret rfl rfl (fun q => absurd q (by decide)) rfl ⟨rfl, h675⟩
theorem c26_in (a1 : Int32) (a2 : Int32) (a3 : Int32) (s : St) (Q : Int32 → St → Prop) (h : inb 4 a2 ∧ inb 4 a2 ∧ inb 64 (gI s 0 31) ∧ inb 64 (gI s 0 31) ∧ inb 64 (gI s 0 31) ∧ inb 64 (gI s 0 31) ∧ calV PP 27 16 [.ref 0, .int (gI s 0 31), .int (0 : Int32), .int (0 : Int32), .int (0 : Int32)] (sI (sI (sI (sI (sI s 10 (ix a2) ((gI s 10 (ix a2)) + (1 : Int32))) 1 (ix (gI s 0 31)) a1) 2 (ix (gI s 0 31)) a2) 3 (ix (gI s 0 31)) ((gI s 10 (ix a2)) + (1 : Int32))) 8 (ix (gI s 0 31)) a3) (fun s669 => inb 64 (gI s 0 31) ∧ Q (gI s 0 31) (sI (sI s669 7 (ix (gI s 0 31)) (0 : Int32)) 0 31 ((gI s 0 31) + (1 : Int32))))) : calI PP 26 16 [.ref 0, .int a1, .int a2, .int a3] s Q := by
  refine cal_of (me := cm26) (ls := [some (.ref 0), some (.int a1), some (.int a2), some (.int a3), none, none]) rfl (Nat.le_of_ble_eq_true rfl) rfl ?_
  refine wpc_sl (n := 6) (c' := 16) (pc' := 11) (ls' := [some (.ref 0), some (.int a1), some (.int a2), some (.int a3), some (.int (gI s 0 31)), none]) (st' := [.int a2, .ref 10]) (s' := s) rfl ?_
  refine wpc_ldaI (a := 9) (N := 4) (v := (gI s 10 (ix a2))) rfl rfl (by decide) h.1 rfl ?_
  have h663 := h.2
  refine wpc_sl (n := 7) (c' := 16) (pc' := 23) (ls' := [some (.ref 0), some (.int a1), some (.int a2), some (.int a3), some (.int (gI s 0 31)), some (.int ((gI s 10 (ix a2)) + (1 : Int32)))]) (st' := [.int ((gI s 10 (ix a2)) + (1 : Int32)), .int a2, .ref 10]) (s' := s) rfl ?_
  refine wpc_staI (a := 9) (N := 4) (s' := (sI s 10 (ix a2) ((gI s 10 (ix a2)) + (1 : Int32)))) rfl rfl (by decide) h663.1 rfl ?_
  have h664 := h663.2
  refine wpc_sl (n := 4) (c' := 16) (pc' := 31) (ls' := [some (.ref 0), some (.int a1), some (.int a2), some (.int a3), some (.int (gI s 0 31)), some (.int ((gI s 10 (ix a2)) + (1 : Int32)))]) (st' := [.int a1, .int (gI s 0 31), .ref 1]) (s' := (sI s 10 (ix a2) ((gI s 10 (ix a2)) + (1 : Int32)))) rfl ?_
  refine wpc_staI (a := 0) (N := 64) (s' := (sI (sI s 10 (ix a2) ((gI s 10 (ix a2)) + (1 : Int32))) 1 (ix (gI s 0 31)) a1)) rfl rfl (by decide) h664.1 rfl ?_
  have h665 := h664.2
  refine wpc_sl (n := 4) (c' := 16) (pc' := 39) (ls' := [some (.ref 0), some (.int a1), some (.int a2), some (.int a3), some (.int (gI s 0 31)), some (.int ((gI s 10 (ix a2)) + (1 : Int32)))]) (st' := [.int a2, .int (gI s 0 31), .ref 2]) (s' := (sI (sI s 10 (ix a2) ((gI s 10 (ix a2)) + (1 : Int32))) 1 (ix (gI s 0 31)) a1)) rfl ?_
  refine wpc_staI (a := 1) (N := 64) (s' := (sI (sI (sI s 10 (ix a2) ((gI s 10 (ix a2)) + (1 : Int32))) 1 (ix (gI s 0 31)) a1) 2 (ix (gI s 0 31)) a2)) rfl rfl (by decide) h665.1 rfl ?_
  have h666 := h665.2
  refine wpc_sl (n := 4) (c' := 16) (pc' := 48) (ls' := [some (.ref 0), some (.int a1), some (.int a2), some (.int a3), some (.int (gI s 0 31)), some (.int ((gI s 10 (ix a2)) + (1 : Int32)))]) (st' := [.int ((gI s 10 (ix a2)) + (1 : Int32)), .int (gI s 0 31), .ref 3]) (s' := (sI (sI (sI s 10 (ix a2) ((gI s 10 (ix a2)) + (1 : Int32))) 1 (ix (gI s 0 31)) a1) 2 (ix (gI s 0 31)) a2)) rfl ?_
  refine wpc_staI (a := 2) (N := 64) (s' := (sI (sI (sI (sI s 10 (ix a2) ((gI s 10 (ix a2)) + (1 : Int32))) 1 (ix (gI s 0 31)) a1) 2 (ix (gI s 0 31)) a2) 3 (ix (gI s 0 31)) ((gI s 10 (ix a2)) + (1 : Int32)))) rfl rfl (by decide) h666.1 rfl ?_
  have h667 := h666.2
  refine wpc_sl (n := 4) (c' := 16) (pc' := 56) (ls' := [some (.ref 0), some (.int a1), some (.int a2), some (.int a3), some (.int (gI s 0 31)), some (.int ((gI s 10 (ix a2)) + (1 : Int32)))]) (st' := [.int a3, .int (gI s 0 31), .ref 8]) (s' := (sI (sI (sI (sI s 10 (ix a2) ((gI s 10 (ix a2)) + (1 : Int32))) 1 (ix (gI s 0 31)) a1) 2 (ix (gI s 0 31)) a2) 3 (ix (gI s 0 31)) ((gI s 10 (ix a2)) + (1 : Int32)))) rfl ?_
  refine wpc_staI (a := 7) (N := 64) (s' := (sI (sI (sI (sI (sI s 10 (ix a2) ((gI s 10 (ix a2)) + (1 : Int32))) 1 (ix (gI s 0 31)) a1) 2 (ix (gI s 0 31)) a2) 3 (ix (gI s 0 31)) ((gI s 10 (ix a2)) + (1 : Int32))) 8 (ix (gI s 0 31)) a3)) rfl rfl (by decide) h667.1 rfl ?_
  have h668 := h667.2
  refine wpc_sl (n := 5) (c' := 16) (pc' := 63) (ls' := [some (.ref 0), some (.int a1), some (.int a2), some (.int a3), some (.int (gI s 0 31)), some (.int ((gI s 10 (ix a2)) + (1 : Int32)))]) (st' := [.int (0 : Int32), .int (0 : Int32), .int (0 : Int32), .int (gI s 0 31), .ref 0]) (s' := (sI (sI (sI (sI (sI s 10 (ix a2) ((gI s 10 (ix a2)) + (1 : Int32))) 1 (ix (gI s 0 31)) a1) 2 (ix (gI s 0 31)) a2) 3 (ix (gI s 0 31)) ((gI s 10 (ix a2)) + (1 : Int32))) 8 (ix (gI s 0 31)) a3)) rfl ?_
  refine wpc_callV (m' := 27) (me' := cm27) (as := [.int (gI s 0 31), .int (0 : Int32), .int (0 : Int32), .int (0 : Int32)]) (r := []) rfl rfl rfl rfl rfl ⟨by decide, (by first | decide | exact Nat.le_of_ble_eq_true rfl), (by first | decide | exact Nat.le_of_ble_eq_true rfl), rfl⟩ (calV.mono h668 fun s669 h671 => ?_)
  refine wpc_sl (n := 4) (c' := 16) (pc' := 73) (ls' := [some (.ref 0), some (.int a1), some (.int a2), some (.int a3), some (.int (gI s 0 31)), some (.int ((gI s 10 (ix a2)) + (1 : Int32)))]) (st' := [.int (0 : Int32), .int (gI s 0 31), .ref 7]) (s' := s669) rfl ?_
  refine wpc_staI (a := 6) (N := 64) (s' := (sI s669 7 (ix (gI s 0 31)) (0 : Int32))) rfl rfl (by decide) h671.1 rfl ?_
  have h672 := h671.2
  refine wpc_sl (n := 6) (c' := 16) (pc' := 84) (ls' := [some (.ref 0), some (.int a1), some (.int a2), some (.int a3), some (.int (gI s 0 31)), some (.int ((gI s 10 (ix a2)) + (1 : Int32)))]) (st' := [.int (gI s 0 31)]) (s' := (sI (sI s669 7 (ix (gI s 0 31)) (0 : Int32)) 0 31 ((gI s 0 31) + (1 : Int32)))) rfl ?_
  exact wpc_ret rfl rfl (fun q => absurd q (by decide)) rfl ⟨(gI s 0 31), rfl, h672⟩
theorem c28_in (a1 : Int32) (a2 : Int32) (s : St) (Q : St → Prop) (h : calI PP 34 16 [.ref 0, .int a1, .int a2] s (fun v677 s676 => calV PP 32 16 [.ref 0, .int a2] s676 (fun s679 => Q s679))) : calV PP 28 16 [.ref 0, .int a1, .int a2] s Q := by
  refine cal_of (me := cm28) (ls := [some (.ref 0), some (.int a1), some (.int a2)]) rfl (Nat.le_of_ble_eq_true rfl) rfl ?_
  refine wpc_sl (n := 3) (c' := 16) (pc' := 3) (ls' := [some (.ref 0), some (.int a1), some (.int a2)]) (st' := [.int a2, .int a1, .ref 0]) (s' := s) rfl ?_
  refine wpc_callI (m' := 34) (me' := cm34) (as := [.int a1, .int a2]) (r := []) rfl rfl rfl rfl rfl ⟨by decide, (by first | decide | exact Nat.le_of_ble_eq_true rfl), (by first | decide | exact Nat.le_of_ble_eq_true rfl), rfl⟩ (calI.mono h fun v677 s676 h678 => ?_)
  refine wpc_sl (n := 3) (c' := 16) (pc' := 9) (ls' := [some (.ref 0), some (.int a1), some (.int a2)]) (st' := [.int a2, .ref 0]) (s' := s676) rfl ?_
  refine wpc_callV (m' := 32) (me' := cm32) (as := [.int a2]) (r := []) rfl rfl rfl rfl rfl ⟨by decide, (by first | decide | exact Nat.le_of_ble_eq_true rfl), (by first | decide | exact Nat.le_of_ble_eq_true rfl), rfl⟩ (calV.mono h678 fun s679 h681 => ?_)
  exact wpc_ret rfl rfl (fun q => absurd q (by decide)) rfl ⟨rfl, h681⟩
theorem c2_in (a1 : Int32) (a2 : Int32) (s : St) (Q : Int32 → St → Prop) (h : calI PP 18 16 [.ref 0, .int a1, .int a2] s (fun v625 s624 => ((v625 = (0 : Int32)) → Q (-1 : Int32) s624) ∧ (¬ (v625 = (0 : Int32)) → calI PP 26 16 [.ref 0, .int (0 : Int32), .int a1, .int a2] s624 (fun v631 s630 => calV PP 28 16 [.ref 0, .int a1, .int v631] s630 (fun s633 => Q v631 s633))))) : calI PP 2 16 [.ref 0, .int a1, .int a2] s Q := by
  refine cal_of (me := cm2) (ls := [some (.ref 0), some (.int a1), some (.int a2), none]) rfl (Nat.le_of_ble_eq_true rfl) rfl ?_
  refine wpc_sl (n := 3) (c' := 16) (pc' := 3) (ls' := [some (.ref 0), some (.int a1), some (.int a2), none]) (st' := [.int a2, .int a1, .ref 0]) (s' := s) rfl ?_
  refine wpc_callI (m' := 18) (me' := cm18) (as := [.int a1, .int a2]) (r := []) rfl rfl rfl rfl rfl ⟨by decide, (by first | decide | exact Nat.le_of_ble_eq_true rfl), (by first | decide | exact Nat.le_of_ble_eq_true rfl), rfl⟩ (calI.mono h fun v625 s624 h626 => ?_)
  refine wpc_if (a := 11) (b := 9) rfl (by decide) rfl rfl (wpc_br (p := v625 = (0 : Int32)) ⟨fun hc627 => ?_, fun hc627 => ?_⟩)
  · have h628 := h626.1 hc627
    refine wpc_sl (n := 1) (c' := 16) (pc' := 10) (ls' := [some (.ref 0), some (.int a1), some (.int a2), none]) (st' := [.int (-1 : Int32)]) (s' := s624) rfl ?_
    exact wpc_ret rfl rfl (fun q => absurd q (by decide)) rfl ⟨(-1 : Int32), rfl, h628⟩
  · have h629 := h626.2 hc627
    refine wpc_sl (n := 4) (c' := 16) (pc' := 15) (ls' := [some (.ref 0), some (.int a1), some (.int a2), none]) (st' := [.int a2, .int a1, .int (0 : Int32), .ref 0]) (s' := s624) rfl ?_
    refine wpc_callI (m' := 26) (me' := cm26) (as := [.int (0 : Int32), .int a1, .int a2]) (r := []) rfl rfl rfl rfl rfl ⟨by decide, (by first | decide | exact Nat.le_of_ble_eq_true rfl), (by first | decide | exact Nat.le_of_ble_eq_true rfl), rfl⟩ (calI.mono h629 fun v631 s630 h632 => ?_)
    refine wpc_sl (n := 4) (c' := 16) (pc' := 22) (ls' := [some (.ref 0), some (.int a1), some (.int a2), some (.int v631)]) (st' := [.int v631, .int a1, .ref 0]) (s' := s630) rfl ?_
    refine wpc_callV (m' := 28) (me' := cm28) (as := [.int a1, .int v631]) (r := []) rfl rfl rfl rfl rfl ⟨by decide, (by first | decide | exact Nat.le_of_ble_eq_true rfl), (by first | decide | exact Nat.le_of_ble_eq_true rfl), rfl⟩ (calV.mono h632 fun s633 h635 => ?_)
    refine wpc_sl (n := 1) (c' := 16) (pc' := 26) (ls' := [some (.ref 0), some (.int a1), some (.int a2), some (.int v631)]) (st' := [.int v631]) (s' := s633) rfl ?_
    exact wpc_ret rfl rfl (fun q => absurd q (by decide)) rfl ⟨v631, rfl, h635⟩
theorem c19_in (a1 : Int32) (a2 : Int32) (s : St) (Q : Int32 → St → Prop) (h : calI PP 22 16 [.ref 0, .int a1] s (fun v701 s700 => ((v701 = (0 : Int32)) → Q (0 : Int32) s700) ∧ (¬ (v701 = (0 : Int32)) → ((a2 < (0 : Int32)) → Q (0 : Int32) s700) ∧ (¬ (a2 < (0 : Int32)) → inb 4 a1 ∧ ((a2 < (gI s700 11 (ix a1))) → calI PP 21 16 [.ref 0] s700 (fun v714 s713 => Q (v714 &&& 1) s713)) ∧ (¬ (a2 < (gI s700 11 (ix a1))) → Q (0 : Int32) s700))))) : calI PP 19 16 [.ref 0, .int a1, .int a2] s Q := by
  refine cal_of (me := cm19) (ls := [some (.ref 0), some (.int a1), some (.int a2)]) rfl (Nat.le_of_ble_eq_true rfl) rfl ?_
  refine wpc_sl (n := 2) (c' := 16) (pc' := 2) (ls' := [some (.ref 0), some (.int a1), some (.int a2)]) (st' := [.int a1, .ref 0]) (s' := s) rfl ?_
  refine wpc_callI (m' := 22) (me' := cm22) (as := [.int a1]) (r := []) rfl rfl rfl rfl rfl ⟨by decide, (by first | decide | exact Nat.le_of_ble_eq_true rfl), (by first | decide | exact Nat.le_of_ble_eq_true rfl), rfl⟩ (calI.mono h fun v701 s700 h702 => ?_)
  refine wpc_if (a := 10) (b := 8) rfl (by decide) rfl rfl (wpc_br (p := v701 = (0 : Int32)) ⟨fun hc703 => ?_, fun hc703 => ?_⟩)
  · have h704 := h702.1 hc703
    refine wpc_sl (n := 1) (c' := 16) (pc' := 9) (ls' := [some (.ref 0), some (.int a1), some (.int a2)]) (st' := [.int (0 : Int32)]) (s' := s700) rfl ?_
    exact wpc_ret rfl rfl (fun q => absurd q (by decide)) rfl ⟨(0 : Int32), rfl, h704⟩
  · have h705 := h702.2 hc703
    refine wpc_sl (n := 1) (c' := 16) (pc' := 11) (ls' := [some (.ref 0), some (.int a1), some (.int a2)]) (st' := [.int a2]) (s' := s700) rfl ?_
    refine wpc_if (a := 24) (b := 14) rfl (by decide) rfl rfl (wpc_br (p := a2 < (0 : Int32)) ⟨fun hc706 => ?_, fun hc706 => ?_⟩)
    · have h707 := h705.1 hc706
      refine wpc_sl (n := 1) (c' := 16) (pc' := 25) (ls' := [some (.ref 0), some (.int a1), some (.int a2)]) (st' := [.int (0 : Int32)]) (s' := s700) rfl ?_
      exact wpc_ret rfl rfl (fun q => absurd q (by decide)) rfl ⟨(0 : Int32), rfl, h707⟩
    · have h708 := h705.2 hc706
      refine wpc_sl (n := 4) (c' := 16) (pc' := 20) (ls' := [some (.ref 0), some (.int a1), some (.int a2)]) (st' := [.int a1, .ref 11, .int a2]) (s' := s700) rfl ?_
      refine wpc_ldaI (a := 10) (N := 4) (v := (gI s700 11 (ix a1))) rfl rfl (by decide) h708.1 rfl ?_
      have h709 := h708.2
      refine wpc_icmp (a := 26) (b := 24) rfl (by decide) rfl rfl (wpc_br (p := a2 < (gI s700 11 (ix a1))) ⟨fun hc710 => ?_, fun hc710 => ?_⟩)
      · have h711 := h709.1 hc710
        refine wpc_sl (n := 1) (c' := 16) (pc' := 27) (ls' := [some (.ref 0), some (.int a1), some (.int a2)]) (st' := [.ref 0]) (s' := s700) rfl ?_
        refine wpc_callI (m' := 21) (me' := cm21) (as := []) (r := []) rfl rfl rfl rfl rfl ⟨by decide, (by first | decide | exact Nat.le_of_ble_eq_true rfl), (by first | decide | exact Nat.le_of_ble_eq_true rfl), rfl⟩ (calI.mono h711 fun v714 s713 h715 => ?_)
        exact wpc_ret rfl rfl (fun q => absurd q (by decide)) rfl ⟨(v714 &&& 1), rfl, h715⟩
      · have h712 := h709.2 hc710
        refine wpc_sl (n := 1) (c' := 16) (pc' := 25) (ls' := [some (.ref 0), some (.int a1), some (.int a2)]) (st' := [.int (0 : Int32)]) (s' := s700) rfl ?_
        exact wpc_ret rfl rfl (fun q => absurd q (by decide)) rfl ⟨(0 : Int32), rfl, h712⟩
theorem c40_in (a1 : Int32) (a2 : Int32) (s : St) (Q : Int32 → St → Prop) (h : ((a2 < (0 : Int32)) → Q (-1 : Int32) s) ∧ (¬ (a2 < (0 : Int32)) → inb 4 a1 ∧ ((a2 < (gI s 11 (ix a1))) → calI PP 49 16 [.ref 0, .int a1, .int a2] s (fun v724 s723 => inb 256 v724 ∧ Q (gI s723 15 (ix v724)) s723)) ∧ (¬ (a2 < (gI s 11 (ix a1))) → Q (-1 : Int32) s))) : calI PP 40 16 [.ref 0, .int a1, .int a2] s Q := by
  refine cal_of (me := cm40) (ls := [some (.ref 0), some (.int a1), some (.int a2)]) rfl (Nat.le_of_ble_eq_true rfl) rfl ?_
  refine wpc_sl (n := 1) (c' := 16) (pc' := 1) (ls' := [some (.ref 0), some (.int a1), some (.int a2)]) (st' := [.int a2]) (s' := s) rfl ?_
  refine wpc_if (a := 14) (b := 4) rfl (by decide) rfl rfl (wpc_br (p := a2 < (0 : Int32)) ⟨fun hc716 => ?_, fun hc716 => ?_⟩)
  · have h717 := h.1 hc716
    refine wpc_sl (n := 1) (c' := 16) (pc' := 15) (ls' := [some (.ref 0), some (.int a1), some (.int a2)]) (st' := [.int (-1 : Int32)]) (s' := s) rfl ?_
    exact wpc_ret rfl rfl (fun q => absurd q (by decide)) rfl ⟨(-1 : Int32), rfl, h717⟩
  · have h718 := h.2 hc716
    refine wpc_sl (n := 4) (c' := 16) (pc' := 10) (ls' := [some (.ref 0), some (.int a1), some (.int a2)]) (st' := [.int a1, .ref 11, .int a2]) (s' := s) rfl ?_
    refine wpc_ldaI (a := 10) (N := 4) (v := (gI s 11 (ix a1))) rfl rfl (by decide) h718.1 rfl ?_
    have h719 := h718.2
    refine wpc_icmp (a := 16) (b := 14) rfl (by decide) rfl rfl (wpc_br (p := a2 < (gI s 11 (ix a1))) ⟨fun hc720 => ?_, fun hc720 => ?_⟩)
    · have h721 := h719.1 hc720
      refine wpc_sl (n := 5) (c' := 16) (pc' := 23) (ls' := [some (.ref 0), some (.int a1), some (.int a2)]) (st' := [.int a2, .int a1, .ref 0, .ref 15]) (s' := s) rfl ?_
      refine wpc_callI (m' := 49) (me' := cm49) (as := [.int a1, .int a2]) (r := [.ref 15]) rfl rfl rfl rfl rfl ⟨by decide, (by first | decide | exact Nat.le_of_ble_eq_true rfl), (by first | decide | exact Nat.le_of_ble_eq_true rfl), rfl⟩ (calI.mono h721 fun v724 s723 h725 => ?_)
      refine wpc_ldaI (a := 14) (N := 256) (v := (gI s723 15 (ix v724))) rfl rfl (by decide) h725.1 rfl ?_
      have h726 := h725.2
      exact wpc_ret rfl rfl (fun q => absurd q (by decide)) rfl ⟨(gI s723 15 (ix v724)), rfl, h726⟩
    · have h722 := h719.2 hc720
      refine wpc_sl (n := 1) (c' := 16) (pc' := 15) (ls' := [some (.ref 0), some (.int a1), some (.int a2)]) (st' := [.int (-1 : Int32)]) (s' := s) rfl ?_
      exact wpc_ret rfl rfl (fun q => absurd q (by decide)) rfl ⟨(-1 : Int32), rfl, h722⟩
theorem c3_in (a1 : Int32) (a2 : Int32) (s : St) (Q : Int32 → St → Prop) (h : calI PP 19 16 [.ref 0, .int a1, .int a2] s (fun v683 s682 => ((v683 = (0 : Int32)) → Q (-1 : Int32) s682) ∧ (¬ (v683 = (0 : Int32)) → calI PP 40 16 [.ref 0, .int a1, .int a2] s682 (fun v689 s688 => ((v689 < (0 : Int32)) → Q (-1 : Int32) s688) ∧ (¬ (v689 < (0 : Int32)) → calI PP 26 16 [.ref 0, .int (1 : Int32), .int a1, .int v689] s688 (fun v695 s694 => calV PP 28 16 [.ref 0, .int a1, .int v695] s694 (fun s697 => Q v695 s697))))))) : calI PP 3 16 [.ref 0, .int a1, .int a2] s Q := by
  refine cal_of (me := cm3) (ls := [some (.ref 0), some (.int a1), some (.int a2), none, none]) rfl (Nat.le_of_ble_eq_true rfl) rfl ?_
  refine wpc_sl (n := 3) (c' := 16) (pc' := 3) (ls' := [some (.ref 0), some (.int a1), some (.int a2), none, none]) (st' := [.int a2, .int a1, .ref 0]) (s' := s) rfl ?_
  refine wpc_callI (m' := 19) (me' := cm19) (as := [.int a1, .int a2]) (r := []) rfl rfl rfl rfl rfl ⟨by decide, (by first | decide | exact Nat.le_of_ble_eq_true rfl), (by first | decide | exact Nat.le_of_ble_eq_true rfl), rfl⟩ (calI.mono h fun v683 s682 h684 => ?_)
  refine wpc_if (a := 11) (b := 9) rfl (by decide) rfl rfl (wpc_br (p := v683 = (0 : Int32)) ⟨fun hc685 => ?_, fun hc685 => ?_⟩)
  · have h686 := h684.1 hc685
    refine wpc_sl (n := 1) (c' := 16) (pc' := 10) (ls' := [some (.ref 0), some (.int a1), some (.int a2), none, none]) (st' := [.int (-1 : Int32)]) (s' := s682) rfl ?_
    exact wpc_ret rfl rfl (fun q => absurd q (by decide)) rfl ⟨(-1 : Int32), rfl, h686⟩
  · have h687 := h684.2 hc685
    refine wpc_sl (n := 3) (c' := 16) (pc' := 14) (ls' := [some (.ref 0), some (.int a1), some (.int a2), none, none]) (st' := [.int a2, .int a1, .ref 0]) (s' := s682) rfl ?_
    refine wpc_callI (m' := 40) (me' := cm40) (as := [.int a1, .int a2]) (r := []) rfl rfl rfl rfl rfl ⟨by decide, (by first | decide | exact Nat.le_of_ble_eq_true rfl), (by first | decide | exact Nat.le_of_ble_eq_true rfl), rfl⟩ (calI.mono h687 fun v689 s688 h690 => ?_)
    refine wpc_sl (n := 2) (c' := 16) (pc' := 19) (ls' := [some (.ref 0), some (.int a1), some (.int a2), some (.int v689), none]) (st' := [.int v689]) (s' := s688) rfl ?_
    refine wpc_if (a := 24) (b := 22) rfl (by decide) rfl rfl (wpc_br (p := v689 < (0 : Int32)) ⟨fun hc691 => ?_, fun hc691 => ?_⟩)
    · have h692 := h690.1 hc691
      refine wpc_sl (n := 1) (c' := 16) (pc' := 23) (ls' := [some (.ref 0), some (.int a1), some (.int a2), some (.int v689), none]) (st' := [.int (-1 : Int32)]) (s' := s688) rfl ?_
      exact wpc_ret rfl rfl (fun q => absurd q (by decide)) rfl ⟨(-1 : Int32), rfl, h692⟩
    · have h693 := h690.2 hc691
      refine wpc_sl (n := 4) (c' := 16) (pc' := 28) (ls' := [some (.ref 0), some (.int a1), some (.int a2), some (.int v689), none]) (st' := [.int v689, .int a1, .int (1 : Int32), .ref 0]) (s' := s688) rfl ?_
      refine wpc_callI (m' := 26) (me' := cm26) (as := [.int (1 : Int32), .int a1, .int v689]) (r := []) rfl rfl rfl rfl rfl ⟨by decide, (by first | decide | exact Nat.le_of_ble_eq_true rfl), (by first | decide | exact Nat.le_of_ble_eq_true rfl), rfl⟩ (calI.mono h693 fun v695 s694 h696 => ?_)
      refine wpc_sl (n := 4) (c' := 16) (pc' := 37) (ls' := [some (.ref 0), some (.int a1), some (.int a2), some (.int v689), some (.int v695)]) (st' := [.int v695, .int a1, .ref 0]) (s' := s694) rfl ?_
      refine wpc_callV (m' := 28) (me' := cm28) (as := [.int a1, .int v695]) (r := []) rfl rfl rfl rfl rfl ⟨by decide, (by first | decide | exact Nat.le_of_ble_eq_true rfl), (by first | decide | exact Nat.le_of_ble_eq_true rfl), rfl⟩ (calV.mono h696 fun s697 h699 => ?_)
      refine wpc_sl (n := 1) (c' := 16) (pc' := 42) (ls' := [some (.ref 0), some (.int a1), some (.int a2), some (.int v689), some (.int v695)]) (st' := [.int v695]) (s' := s697) rfl ?_
      exact wpc_ret rfl rfl (fun q => absurd q (by decide)) rfl ⟨v695, rfl, h699⟩
theorem c20_in (a1 : Int32) (a2 : Int32) (a3 : Int32) (a4 : Int32) (s : St) (Q : Int32 → St → Prop) (h : calI PP 22 16 [.ref 0, .int a1] s (fun v763 s762 => ((v763 = (0 : Int32)) → Q (0 : Int32) s762) ∧ (¬ (v763 = (0 : Int32)) → ((a2 < (0 : Int32)) → Q (0 : Int32) s762) ∧ (¬ (a2 < (0 : Int32)) → (((1023 : Int32) < a2) → Q (0 : Int32) s762) ∧ (¬ ((1023 : Int32) < a2) → (((a2 % (4 : Int32)) = (2 : Int32)) → wpcI PP 20 cm20 16 39 [some (.ref 0), some (.int a1), none, some (.int a3), some (.int a4)] [] s762 Q) ∧ (¬ ((a2 % (4 : Int32)) = (2 : Int32)) → (((1 : Int32) < (a2 / (4 : Int32))) → Q (0 : Int32) s762) ∧ (¬ ((1 : Int32) < (a2 / (4 : Int32))) → wpcI PP 20 cm20 16 39 [some (.ref 0), some (.int a1), none, some (.int a3), some (.int a4)] [] s762 Q))))))) : calI PP 20 16 [.ref 0, .int a1, .int a2, .int a3, .int a4] s Q := by
  refine cal_of (me := cm20) (ls := [some (.ref 0), some (.int a1), some (.int a2), some (.int a3), some (.int a4)]) rfl (Nat.le_of_ble_eq_true rfl) rfl ?_
  refine wpc_sl (n := 2) (c' := 16) (pc' := 2) (ls' := [some (.ref 0), some (.int a1), some (.int a2), some (.int a3), some (.int a4)]) (st' := [.int a1, .ref 0]) (s' := s) rfl ?_
  refine wpc_callI (m' := 22) (me' := cm22) (as := [.int a1]) (r := []) rfl rfl rfl rfl rfl ⟨by decide, (by first | decide | exact Nat.le_of_ble_eq_true rfl), (by first | decide | exact Nat.le_of_ble_eq_true rfl), rfl⟩ (calI.mono h fun v763 s762 h764 => ?_)
  refine wpc_if (a := 10) (b := 8) rfl (by decide) rfl rfl (wpc_br (p := v763 = (0 : Int32)) ⟨fun hc765 => ?_, fun hc765 => ?_⟩)
  · have h766 := h764.1 hc765
    refine wpc_sl (n := 1) (c' := 16) (pc' := 9) (ls' := [some (.ref 0), some (.int a1), some (.int a2), some (.int a3), some (.int a4)]) (st' := [.int (0 : Int32)]) (s' := s762) rfl ?_
    exact wpc_ret rfl rfl (fun q => absurd q (by decide)) rfl ⟨(0 : Int32), rfl, h766⟩
  · have h767 := h764.2 hc765
    refine wpc_sl (n := 1) (c' := 16) (pc' := 11) (ls' := [some (.ref 0), some (.int a1), some (.int a2), some (.int a3), some (.int a4)]) (st' := [.int a2]) (s' := s762) rfl ?_
    refine wpc_if (a := 21) (b := 14) rfl (by decide) rfl rfl (wpc_br (p := a2 < (0 : Int32)) ⟨fun hc768 => ?_, fun hc768 => ?_⟩)
    · have h769 := h767.1 hc768
      refine wpc_sl (n := 1) (c' := 16) (pc' := 22) (ls' := [some (.ref 0), some (.int a1), some (.int a2), some (.int a3), some (.int a4)]) (st' := [.int (0 : Int32)]) (s' := s762) rfl ?_
      exact wpc_ret rfl rfl (fun q => absurd q (by decide)) rfl ⟨(0 : Int32), rfl, h769⟩
    · have h770 := h767.2 hc768
      refine wpc_sl (n := 2) (c' := 16) (pc' := 18) (ls' := [some (.ref 0), some (.int a1), some (.int a2), some (.int a3), some (.int a4)]) (st' := [.int (1023 : Int32), .int a2]) (s' := s762) rfl ?_
      refine wpc_icmp (a := 23) (b := 21) rfl (by decide) rfl rfl (wpc_br (p := (1023 : Int32) < a2) ⟨fun hc771 => ?_, fun hc771 => ?_⟩)
      · have h772 := h770.1 hc771
        refine wpc_sl (n := 1) (c' := 16) (pc' := 22) (ls' := [some (.ref 0), some (.int a1), some (.int a2), some (.int a3), some (.int a4)]) (st' := [.int (0 : Int32)]) (s' := s762) rfl ?_
        exact wpc_ret rfl rfl (fun q => absurd q (by decide)) rfl ⟨(0 : Int32), rfl, h772⟩
      · have h773 := h770.2 hc771
        refine wpc_sl (n := 4) (c' := 16) (pc' := 27) (ls' := [some (.ref 0), some (.int a1), some (.int a2), some (.int a3), some (.int a4)]) (st' := [.int (2 : Int32), .int (a2 % (4 : Int32))]) (s' := s762) rfl ?_
        refine wpc_icmp (a := 39) (b := 30) rfl (by decide) rfl rfl (wpc_br (p := (a2 % (4 : Int32)) = (2 : Int32)) ⟨fun hc774 => ?_, fun hc774 => ?_⟩)
        · have h775 := h773.1 hc774
          exact wpc_lle (ls := [some (.ref 0), some (.int a1), none, some (.int a3), some (.int a4)]) ⟨rfl, rfl, rfl, rfl, trivial⟩ h775
        · have h776 := h773.2 hc774
          refine wpc_sl (n := 4) (c' := 16) (pc' := 34) (ls' := [some (.ref 0), some (.int a1), some (.int a2), some (.int a3), some (.int a4)]) (st' := [.int (1 : Int32), .int (a2 / (4 : Int32))]) (s' := s762) rfl ?_
          refine wpc_icmp (a := 39) (b := 37) rfl (by decide) rfl rfl (wpc_br (p := (1 : Int32) < (a2 / (4 : Int32))) ⟨fun hc777 => ?_, fun hc777 => ?_⟩)
          · have h778 := h776.1 hc777
            refine wpc_sl (n := 1) (c' := 16) (pc' := 38) (ls' := [some (.ref 0), some (.int a1), some (.int a2), some (.int a3), some (.int a4)]) (st' := [.int (0 : Int32)]) (s' := s762) rfl ?_
            exact wpc_ret rfl rfl (fun q => absurd q (by decide)) rfl ⟨(0 : Int32), rfl, h778⟩
          · have h779 := h776.2 hc777
            exact wpc_lle (ls := [some (.ref 0), some (.int a1), none, some (.int a3), some (.int a4)]) ⟨rfl, rfl, rfl, rfl, trivial⟩ h779
theorem c20_39 (x1 : Int32) (x3 : Int32) (x4 : Int32) (s : St) (Q : Int32 → St → Prop) (h : ((x3 < (0 : Int32)) → Q (0 : Int32) s) ∧ (¬ (x3 < (0 : Int32)) → ((x4 < x3) → Q (0 : Int32) s) ∧ (¬ (x4 < x3) → inb 4 x1 ∧ ((x4 < (gI s 11 (ix x1))) → calI PP 21 16 [.ref 0] s (fun v791 s790 => Q (v791 &&& 1) s790)) ∧ (¬ (x4 < (gI s 11 (ix x1))) → Q (0 : Int32) s)))) : wpcI PP 20 cm20 16 39 [some (.ref 0), some (.int x1), none, some (.int x3), some (.int x4)] [] s Q := by
  refine wpc_sl (n := 1) (c' := 16) (pc' := 40) (ls' := [some (.ref 0), some (.int x1), none, some (.int x3), some (.int x4)]) (st' := [.int x3]) (s' := s) rfl ?_
  refine wpc_if (a := 49) (b := 43) rfl (by decide) rfl rfl (wpc_br (p := x3 < (0 : Int32)) ⟨fun hc780 => ?_, fun hc780 => ?_⟩)
  · have h781 := h.1 hc780
    refine wpc_sl (n := 1) (c' := 16) (pc' := 50) (ls' := [some (.ref 0), some (.int x1), none, some (.int x3), some (.int x4)]) (st' := [.int (0 : Int32)]) (s' := s) rfl ?_
    exact wpc_ret rfl rfl (fun q => absurd q (by decide)) rfl ⟨(0 : Int32), rfl, h781⟩
  · have h782 := h.2 hc780
    refine wpc_sl (n := 2) (c' := 16) (pc' := 46) (ls' := [some (.ref 0), some (.int x1), none, some (.int x3), some (.int x4)]) (st' := [.int x4, .int x3]) (s' := s) rfl ?_
    refine wpc_icmp (a := 51) (b := 49) rfl (by decide) rfl rfl (wpc_br (p := x4 < x3) ⟨fun hc783 => ?_, fun hc783 => ?_⟩)
    · have h784 := h782.1 hc783
      refine wpc_sl (n := 1) (c' := 16) (pc' := 50) (ls' := [some (.ref 0), some (.int x1), none, some (.int x3), some (.int x4)]) (st' := [.int (0 : Int32)]) (s' := s) rfl ?_
      exact wpc_ret rfl rfl (fun q => absurd q (by decide)) rfl ⟨(0 : Int32), rfl, h784⟩
    · have h785 := h782.2 hc783
      refine wpc_sl (n := 4) (c' := 16) (pc' := 58) (ls' := [some (.ref 0), some (.int x1), none, some (.int x3), some (.int x4)]) (st' := [.int x1, .ref 11, .int x4]) (s' := s) rfl ?_
      refine wpc_ldaI (a := 10) (N := 4) (v := (gI s 11 (ix x1))) rfl rfl (by decide) h785.1 rfl ?_
      have h786 := h785.2
      refine wpc_icmp (a := 64) (b := 62) rfl (by decide) rfl rfl (wpc_br (p := x4 < (gI s 11 (ix x1))) ⟨fun hc787 => ?_, fun hc787 => ?_⟩)
      · have h788 := h786.1 hc787
        refine wpc_sl (n := 1) (c' := 16) (pc' := 65) (ls' := [some (.ref 0), some (.int x1), none, some (.int x3), some (.int x4)]) (st' := [.ref 0]) (s' := s) rfl ?_
        refine wpc_callI (m' := 21) (me' := cm21) (as := []) (r := []) rfl rfl rfl rfl rfl ⟨by decide, (by first | decide | exact Nat.le_of_ble_eq_true rfl), (by first | decide | exact Nat.le_of_ble_eq_true rfl), rfl⟩ (calI.mono h788 fun v791 s790 h792 => ?_)
        exact wpc_ret rfl rfl (fun q => absurd q (by decide)) rfl ⟨(v791 &&& 1), rfl, h792⟩
      · have h789 := h786.2 hc787
        refine wpc_sl (n := 1) (c' := 16) (pc' := 63) (ls' := [some (.ref 0), some (.int x1), none, some (.int x3), some (.int x4)]) (st' := [.int (0 : Int32)]) (s' := s) rfl ?_
        exact wpc_ret rfl rfl (fun q => absurd q (by decide)) rfl ⟨(0 : Int32), rfl, h789⟩
theorem c41_in (a1 : Int32) (a2 : Int32) (s : St) (Q : Int32 → St → Prop) (h : inb 4 a1 ∧ wpcI PP 41 cm41 16 10 [some (.ref 0), some (.int a1), some (.int a2), some (.int (gI s 11 (ix a1))), some (.int (0 : Int32)), none] [] s Q) : calI PP 41 16 [.ref 0, .int a1, .int a2] s Q := by
  refine cal_of (me := cm41) (ls := [some (.ref 0), some (.int a1), some (.int a2), none, none, none]) rfl (Nat.le_of_ble_eq_true rfl) rfl ?_
  refine wpc_sl (n := 3) (c' := 16) (pc' := 5) (ls' := [some (.ref 0), some (.int a1), some (.int a2), none, none, none]) (st' := [.int a1, .ref 11]) (s' := s) rfl ?_
  refine wpc_ldaI (a := 10) (N := 4) (v := (gI s 11 (ix a1))) rfl rfl (by decide) h.1 rfl ?_
  have h805 := h.2
  refine wpc_sl (n := 3) (c' := 16) (pc' := 10) (ls' := [some (.ref 0), some (.int a1), some (.int a2), some (.int (gI s 11 (ix a1))), some (.int (0 : Int32)), none]) (st' := []) (s' := s) rfl ?_
  exact h805
theorem c41_10 (x1 : Int32) (x2 : Int32) (x3 : Int32) (x4 : Int32) (s : St) (Q : Int32 → St → Prop) (h : ((x4 < x3) → calI PP 49 16 [.ref 0, .int x1, .int x4] s (fun v810 s809 => inb 256 v810 ∧ ((x2 < (gI s809 15 (ix v810))) → Q (gI s809 15 (ix v810)) s809) ∧ (¬ (x2 < (gI s809 15 (ix v810))) → wpcI PP 41 cm41 16 10 [some (.ref 0), some (.int x1), some (.int x2), some (.int x3), some (.int (x4 + (1 : Int32))), none] [] s809 Q))) ∧ (¬ (x4 < x3) → Q (-1 : Int32) s)) : wpcI PP 41 cm41 16 10 [some (.ref 0), some (.int x1), some (.int x2), some (.int x3), some (.int x4), none] [] s Q := by
  refine wpc_sl (n := 2) (c' := 16) (pc' := 13) (ls' := [some (.ref 0), some (.int x1), some (.int x2), some (.int x3), some (.int x4), none]) (st' := [.int x3, .int x4]) (s' := s) rfl ?_
  refine wpc_icmp (a := 45) (b := 16) rfl (by decide) rfl rfl (wpc_br (p := x4 < x3) ⟨fun hc806 => ?_, fun hc806 => ?_⟩)
  · have h807 := h.1 hc806
    refine wpc_sl (n := 5) (c' := 16) (pc' := 24) (ls' := [some (.ref 0), some (.int x1), some (.int x2), some (.int x3), some (.int x4), none]) (st' := [.int x4, .int x1, .ref 0, .ref 15]) (s' := s) rfl ?_
    refine wpc_callI (m' := 49) (me' := cm49) (as := [.int x1, .int x4]) (r := [.ref 15]) rfl rfl rfl rfl rfl ⟨by decide, (by first | decide | exact Nat.le_of_ble_eq_true rfl), (by first | decide | exact Nat.le_of_ble_eq_true rfl), rfl⟩ (calI.mono h807 fun v810 s809 h811 => ?_)
    refine wpc_ldaI (a := 14) (N := 256) (v := (gI s809 15 (ix v810))) rfl rfl (by decide) h811.1 rfl ?_
    have h812 := h811.2
    refine wpc_sl (n := 3) (c' := 16) (pc' := 33) (ls' := [some (.ref 0), some (.int x1), some (.int x2), some (.int x3), some (.int x4), some (.int (gI s809 15 (ix v810)))]) (st' := [.int x2, .int (gI s809 15 (ix v810))]) (s' := s809) rfl ?_
    refine wpc_icmp (a := 39) (b := 36) rfl (by decide) rfl rfl (wpc_br (p := x2 < (gI s809 15 (ix v810))) ⟨fun hc813 => ?_, fun hc813 => ?_⟩)
    · have h814 := h812.1 hc813
      refine wpc_sl (n := 1) (c' := 16) (pc' := 38) (ls' := [some (.ref 0), some (.int x1), some (.int x2), some (.int x3), some (.int x4), some (.int (gI s809 15 (ix v810)))]) (st' := [.int (gI s809 15 (ix v810))]) (s' := s809) rfl ?_
      exact wpc_ret rfl rfl (fun q => absurd q (by decide)) rfl ⟨(gI s809 15 (ix v810)), rfl, h814⟩
    · have h815 := h812.2 hc813
      refine wpc_sl (n := 2) (c' := 16) (pc' := 10) (ls' := [some (.ref 0), some (.int x1), some (.int x2), some (.int x3), some (.int (x4 + (1 : Int32))), some (.int (gI s809 15 (ix v810)))]) (st' := []) (s' := s809) rfl ?_
      exact wpc_lle (ls := [some (.ref 0), some (.int x1), some (.int x2), some (.int x3), some (.int (x4 + (1 : Int32))), none]) ⟨rfl, rfl, rfl, rfl, rfl, trivial⟩ h815
  · have h808 := h.2 hc806
    refine wpc_sl (n := 1) (c' := 16) (pc' := 46) (ls' := [some (.ref 0), some (.int x1), some (.int x2), some (.int x3), some (.int x4), none]) (st' := [.int (-1 : Int32)]) (s' := s) rfl ?_
    exact wpc_ret rfl rfl (fun q => absurd q (by decide)) rfl ⟨(-1 : Int32), rfl, h808⟩
theorem c44_in (a1 : Int32) (a2 : Int32) (a3 : Int32) (s : St) (Q : Int32 → St → Prop) (h : ((a2 = (0 : Int32)) → wpcI PP 44 cm44 16 9 [some (.ref 0), some (.int a1), none, some (.int a3), none] [] s Q) ∧ (¬ (a2 = (0 : Int32)) → ((a2 = (1 : Int32)) → wpcI PP 44 cm44 16 9 [some (.ref 0), some (.int a1), none, some (.int a3), none] [] s Q) ∧ (¬ (a2 = (1 : Int32)) → Q (((3 : Int32) * a3) + (2 : Int32)) s))) : calI PP 44 16 [.ref 0, .int a1, .int a2, .int a3] s Q := by
  refine cal_of (me := cm44) (ls := [some (.ref 0), some (.int a1), some (.int a2), some (.int a3), none]) rfl (Nat.le_of_ble_eq_true rfl) rfl ?_
  refine wpc_sl (n := 1) (c' := 16) (pc' := 1) (ls' := [some (.ref 0), some (.int a1), some (.int a2), some (.int a3), none]) (st' := [.int a2]) (s' := s) rfl ?_
  refine wpc_if (a := 9) (b := 4) rfl (by decide) rfl rfl (wpc_br (p := a2 = (0 : Int32)) ⟨fun hc793 => ?_, fun hc793 => ?_⟩)
  · have h794 := h.1 hc793
    exact wpc_lle (ls := [some (.ref 0), some (.int a1), none, some (.int a3), none]) ⟨rfl, rfl, rfl, trivial⟩ h794
  · have h795 := h.2 hc793
    refine wpc_sl (n := 2) (c' := 16) (pc' := 6) (ls' := [some (.ref 0), some (.int a1), some (.int a2), some (.int a3), none]) (st' := [.int (1 : Int32), .int a2]) (s' := s) rfl ?_
    refine wpc_icmp (a := 34) (b := 9) rfl (by decide) rfl rfl (wpc_br (p := a2 = (1 : Int32)) ⟨fun hc796 => ?_, fun hc796 => ?_⟩)
    · have h797 := h795.1 hc796
      exact wpc_lle (ls := [some (.ref 0), some (.int a1), none, some (.int a3), none]) ⟨rfl, rfl, rfl, trivial⟩ h797
    · have h798 := h795.2 hc796
      refine wpc_sl (n := 5) (c' := 16) (pc' := 39) (ls' := [some (.ref 0), some (.int a1), some (.int a2), some (.int a3), none]) (st' := [.int (((3 : Int32) * a3) + (2 : Int32))]) (s' := s) rfl ?_
      exact wpc_ret rfl rfl (fun q => absurd q (by decide)) rfl ⟨(((3 : Int32) * a3) + (2 : Int32)), rfl, h798⟩
theorem c44_9 (x1 : Int32) (x3 : Int32) (s : St) (Q : Int32 → St → Prop) (h : calI PP 41 16 [.ref 0, .int x1, .int x3] s (fun v800 s799 => ((v800 < (0 : Int32)) → Q ((3 : Int32) * (gI s799 0 28)) s799) ∧ (¬ (v800 < (0 : Int32)) → Q ((3 : Int32) * v800) s799))) : wpcI PP 44 cm44 16 9 [some (.ref 0), some (.int x1), none, some (.int x3), none] [] s Q := by
  refine wpc_sl (n := 3) (c' := 16) (pc' := 12) (ls' := [some (.ref 0), some (.int x1), none, some (.int x3), none]) (st' := [.int x3, .int x1, .ref 0]) (s' := s) rfl ?_
  refine wpc_callI (m' := 41) (me' := cm41) (as := [.int x1, .int x3]) (r := []) rfl rfl rfl rfl rfl ⟨by decide, (by first | decide | exact Nat.le_of_ble_eq_true rfl), (by first | decide | exact Nat.le_of_ble_eq_true rfl), rfl⟩ (calI.mono h fun v800 s799 h801 => ?_)
  refine wpc_sl (n := 2) (c' := 16) (pc' := 19) (ls' := [some (.ref 0), some (.int x1), none, some (.int x3), some (.int v800)]) (st' := [.int v800]) (s' := s799) rfl ?_
  refine wpc_if (a := 29) (b := 22) rfl (by decide) rfl rfl (wpc_br (p := v800 < (0 : Int32)) ⟨fun hc802 => ?_, fun hc802 => ?_⟩)
  · have h803 := h801.1 hc802
    refine wpc_sl (n := 4) (c' := 16) (pc' := 28) (ls' := [some (.ref 0), some (.int x1), none, some (.int x3), some (.int v800)]) (st' := [.int ((3 : Int32) * (gI s799 0 28))]) (s' := s799) rfl ?_
    exact wpc_ret rfl rfl (fun q => absurd q (by decide)) rfl ⟨((3 : Int32) * (gI s799 0 28)), rfl, h803⟩
  · have h804 := h801.2 hc802
    refine wpc_sl (n := 3) (c' := 16) (pc' := 33) (ls' := [some (.ref 0), some (.int x1), none, some (.int x3), some (.int v800)]) (st' := [.int ((3 : Int32) * v800)]) (s' := s799) rfl ?_
    exact wpc_ret rfl rfl (fun q => absurd q (by decide)) rfl ⟨((3 : Int32) * v800), rfl, h804⟩
theorem c4_in (a1 : Int32) (a2 : Int32) (a3 : Int32) (a4 : Int32) (s : St) (Q : Int32 → St → Prop) (h : calI PP 20 16 [.ref 0, .int a1, .int a2, .int a3, .int a4] s (fun v728 s727 => ((v728 = (0 : Int32)) → Q (-1 : Int32) s727) ∧ (¬ (v728 = (0 : Int32)) → calI PP 40 16 [.ref 0, .int a1, .int a3] s727 (fun v734 s733 => calI PP 40 16 [.ref 0, .int a1, .int a4] s733 (fun v737 s736 => ((v734 < (0 : Int32)) → Q (-1 : Int32) s736) ∧ (¬ (v734 < (0 : Int32)) → ((v737 < (0 : Int32)) → Q (-1 : Int32) s736) ∧ (¬ (v737 < (0 : Int32)) → ∀ m745, m745 = (if (a2 / (4 : Int32)) = (0 : Int32) then (3 : Int32) else (2 : Int32)) → (calI PP 44 16 [.ref 0, .int a1, .int (a2 % (4 : Int32)), .int v737] s736 (fun v749 s748 => calI PP 26 16 [.ref 0, .int m745, .int a1, .int (0 : Int32)] s748 (fun v752 s751 => calV PP 27 16 [.ref 0, .int v752, .int (a2 % (4 : Int32)), .int ((3 : Int32) * v734), .int v749] s751 (fun s754 => inb 64 v752 ∧ calV PP 28 16 [.ref 0, .int a1, .int v752] (sI s754 7 (ix v752) (a2 / (4 : Int32))) (fun s758 => Q v752 s758)))))))))))) : calI PP 4 16 [.ref 0, .int a1, .int a2, .int a3, .int a4] s Q := by
  refine cal_of (me := cm4) (ls := [some (.ref 0), some (.int a1), some (.int a2), some (.int a3), some (.int a4), none, none, none, none, none, none, none]) rfl (Nat.le_of_ble_eq_true rfl) rfl ?_
  refine wpc_sl (n := 5) (c' := 16) (pc' := 6) (ls' := [some (.ref 0), some (.int a1), some (.int a2), some (.int a3), some (.int a4), none, none, none, none, none, none, none]) (st' := [.int a4, .int a3, .int a2, .int a1, .ref 0]) (s' := s) rfl ?_
  refine wpc_callI (m' := 20) (me' := cm20) (as := [.int a1, .int a2, .int a3, .int a4]) (r := []) rfl rfl rfl rfl rfl ⟨by decide, (by first | decide | exact Nat.le_of_ble_eq_true rfl), (by first | decide | exact Nat.le_of_ble_eq_true rfl), rfl⟩ (calI.mono h fun v728 s727 h729 => ?_)
  refine wpc_if (a := 14) (b := 12) rfl (by decide) rfl rfl (wpc_br (p := v728 = (0 : Int32)) ⟨fun hc730 => ?_, fun hc730 => ?_⟩)
  · have h731 := h729.1 hc730
    refine wpc_sl (n := 1) (c' := 16) (pc' := 13) (ls' := [some (.ref 0), some (.int a1), some (.int a2), some (.int a3), some (.int a4), none, none, none, none, none, none, none]) (st' := [.int (-1 : Int32)]) (s' := s727) rfl ?_
    exact wpc_ret rfl rfl (fun q => absurd q (by decide)) rfl ⟨(-1 : Int32), rfl, h731⟩
  · have h732 := h729.2 hc730
    refine wpc_sl (n := 11) (c' := 16) (pc' := 27) (ls' := [some (.ref 0), some (.int a1), some (.int a2), some (.int a3), some (.int a4), some (.int (a2 % (4 : Int32))), some (.int (a2 / (4 : Int32))), none, none, none, none, none]) (st' := [.int a3, .int a1, .ref 0]) (s' := s727) rfl ?_
    refine wpc_callI (m' := 40) (me' := cm40) (as := [.int a1, .int a3]) (r := []) rfl rfl rfl rfl rfl ⟨by decide, (by first | decide | exact Nat.le_of_ble_eq_true rfl), (by first | decide | exact Nat.le_of_ble_eq_true rfl), rfl⟩ (calI.mono h732 fun v734 s733 h735 => ?_)
    refine wpc_sl (n := 4) (c' := 16) (pc' := 36) (ls' := [some (.ref 0), some (.int a1), some (.int a2), some (.int a3), some (.int a4), some (.int (a2 % (4 : Int32))), some (.int (a2 / (4 : Int32))), some (.int v734), none, none, none, none]) (st' := [.int a4, .int a1, .ref 0]) (s' := s733) rfl ?_
    refine wpc_callI (m' := 40) (me' := cm40) (as := [.int a1, .int a4]) (r := []) rfl rfl rfl rfl rfl ⟨by decide, (by first | decide | exact Nat.le_of_ble_eq_true rfl), (by first | decide | exact Nat.le_of_ble_eq_true rfl), rfl⟩ (calI.mono h735 fun v737 s736 h738 => ?_)
    refine wpc_sl (n := 2) (c' := 16) (pc' := 43) (ls' := [some (.ref 0), some (.int a1), some (.int a2), some (.int a3), some (.int a4), some (.int (a2 % (4 : Int32))), some (.int (a2 / (4 : Int32))), some (.int v734), some (.int v737), none, none, none]) (st' := [.int v734]) (s' := s736) rfl ?_
    refine wpc_if (a := 51) (b := 46) rfl (by decide) rfl rfl (wpc_br (p := v734 < (0 : Int32)) ⟨fun hc739 => ?_, fun hc739 => ?_⟩)
    · have h740 := h738.1 hc739
      refine wpc_sl (n := 1) (c' := 16) (pc' := 52) (ls' := [some (.ref 0), some (.int a1), some (.int a2), some (.int a3), some (.int a4), some (.int (a2 % (4 : Int32))), some (.int (a2 / (4 : Int32))), some (.int v734), some (.int v737), none, none, none]) (st' := [.int (-1 : Int32)]) (s' := s736) rfl ?_
      exact wpc_ret rfl rfl (fun q => absurd q (by decide)) rfl ⟨(-1 : Int32), rfl, h740⟩
    · have h741 := h738.2 hc739
      refine wpc_sl (n := 1) (c' := 16) (pc' := 48) (ls' := [some (.ref 0), some (.int a1), some (.int a2), some (.int a3), some (.int a4), some (.int (a2 % (4 : Int32))), some (.int (a2 / (4 : Int32))), some (.int v734), some (.int v737), none, none, none]) (st' := [.int v737]) (s' := s736) rfl ?_
      refine wpc_if (a := 53) (b := 51) rfl (by decide) rfl rfl (wpc_br (p := v737 < (0 : Int32)) ⟨fun hc742 => ?_, fun hc742 => ?_⟩)
      · have h743 := h741.1 hc742
        refine wpc_sl (n := 1) (c' := 16) (pc' := 52) (ls' := [some (.ref 0), some (.int a1), some (.int a2), some (.int a3), some (.int a4), some (.int (a2 % (4 : Int32))), some (.int (a2 / (4 : Int32))), some (.int v734), some (.int v737), none, none, none]) (st' := [.int (-1 : Int32)]) (s' := s736) rfl ?_
        exact wpc_ret rfl rfl (fun q => absurd q (by decide)) rfl ⟨(-1 : Int32), rfl, h743⟩
      · have h744 := h741.2 hc742
        refine wpc_sl (n := 3) (c' := 16) (pc' := 58) (ls' := [some (.ref 0), some (.int a1), some (.int a2), some (.int a3), some (.int a4), some (.int (a2 % (4 : Int32))), some (.int (a2 / (4 : Int32))), some (.int v734), some (.int v737), some (.int (2 : Int32)), none, none]) (st' := [.int (a2 / (4 : Int32))]) (s' := s736) rfl ?_
        have hm746 : ∀ m745, m745 = (if (a2 / (4 : Int32)) = (0 : Int32) then (3 : Int32) else (2 : Int32)) → wpcI PP 4 cm4 16 64 [some (.ref 0), some (.int a1), some (.int a2), some (.int a3), some (.int a4), some (.int (a2 % (4 : Int32))), some (.int (a2 / (4 : Int32))), some (.int v734), some (.int v737), some (.int m745), none, none] [] s736 Q := by
          intro m745 em745
          have h747 := h744 m745 em745
          refine wpc_sl (n := 4) (c' := 16) (pc' := 70) (ls' := [some (.ref 0), some (.int a1), some (.int a2), some (.int a3), some (.int a4), some (.int (a2 % (4 : Int32))), some (.int (a2 / (4 : Int32))), some (.int v734), some (.int v737), some (.int m745), none, none]) (st' := [.int v737, .int (a2 % (4 : Int32)), .int a1, .ref 0]) (s' := s736) rfl ?_
          refine wpc_callI (m' := 44) (me' := cm44) (as := [.int a1, .int (a2 % (4 : Int32)), .int v737]) (r := []) rfl rfl rfl rfl rfl ⟨by decide, (by first | decide | exact Nat.le_of_ble_eq_true rfl), (by first | decide | exact Nat.le_of_ble_eq_true rfl), rfl⟩ (calI.mono h747 fun v749 s748 h750 => ?_)
          refine wpc_sl (n := 5) (c' := 16) (pc' := 80) (ls' := [some (.ref 0), some (.int a1), some (.int a2), some (.int a3), some (.int a4), some (.int (a2 % (4 : Int32))), some (.int (a2 / (4 : Int32))), some (.int v734), some (.int v737), some (.int m745), some (.int v749), none]) (st' := [.int (0 : Int32), .int a1, .int m745, .ref 0]) (s' := s748) rfl ?_
          refine wpc_callI (m' := 26) (me' := cm26) (as := [.int m745, .int a1, .int (0 : Int32)]) (r := []) rfl rfl rfl rfl rfl ⟨by decide, (by first | decide | exact Nat.le_of_ble_eq_true rfl), (by first | decide | exact Nat.le_of_ble_eq_true rfl), rfl⟩ (calI.mono h750 fun v752 s751 h753 => ?_)
          refine wpc_sl (n := 8) (c' := 16) (pc' := 96) (ls' := [some (.ref 0), some (.int a1), some (.int a2), some (.int a3), some (.int a4), some (.int (a2 % (4 : Int32))), some (.int (a2 / (4 : Int32))), some (.int v734), some (.int v737), some (.int m745), some (.int v749), some (.int v752)]) (st' := [.int v749, .int ((3 : Int32) * v734), .int (a2 % (4 : Int32)), .int v752, .ref 0]) (s' := s751) rfl ?_
          refine wpc_callV (m' := 27) (me' := cm27) (as := [.int v752, .int (a2 % (4 : Int32)), .int ((3 : Int32) * v734), .int v749]) (r := []) rfl rfl rfl rfl rfl ⟨by decide, (by first | decide | exact Nat.le_of_ble_eq_true rfl), (by first | decide | exact Nat.le_of_ble_eq_true rfl), rfl⟩ (calV.mono h753 fun s754 h756 => ?_)
          refine wpc_sl (n := 4) (c' := 16) (pc' := 107) (ls' := [some (.ref 0), some (.int a1), some (.int a2), some (.int a3), some (.int a4), some (.int (a2 % (4 : Int32))), some (.int (a2 / (4 : Int32))), some (.int v734), some (.int v737), some (.int m745), some (.int v749), some (.int v752)]) (st' := [.int (a2 / (4 : Int32)), .int v752, .ref 7]) (s' := s754) rfl ?_
          refine wpc_staI (a := 6) (N := 64) (s' := (sI s754 7 (ix v752) (a2 / (4 : Int32)))) rfl rfl (by decide) h756.1 rfl ?_
          have h757 := h756.2
          refine wpc_sl (n := 3) (c' := 16) (pc' := 112) (ls' := [some (.ref 0), some (.int a1), some (.int a2), some (.int a3), some (.int a4), some (.int (a2 % (4 : Int32))), some (.int (a2 / (4 : Int32))), some (.int v734), some (.int v737), some (.int m745), some (.int v749), some (.int v752)]) (st' := [.int v752, .int a1, .ref 0]) (s' := (sI s754 7 (ix v752) (a2 / (4 : Int32)))) rfl ?_
          refine wpc_callV (m' := 28) (me' := cm28) (as := [.int a1, .int v752]) (r := []) rfl rfl rfl rfl rfl ⟨by decide, (by first | decide | exact Nat.le_of_ble_eq_true rfl), (by first | decide | exact Nat.le_of_ble_eq_true rfl), rfl⟩ (calV.mono h757 fun s758 h760 => ?_)
          refine wpc_sl (n := 1) (c' := 16) (pc' := 117) (ls' := [some (.ref 0), some (.int a1), some (.int a2), some (.int a3), some (.int a4), some (.int (a2 % (4 : Int32))), some (.int (a2 / (4 : Int32))), some (.int v734), some (.int v737), some (.int m745), some (.int v749), some (.int v752)]) (st' := [.int v752]) (s' := s758) rfl ?_
          exact wpc_ret rfl rfl (fun q => absurd q (by decide)) rfl ⟨v752, rfl, h760⟩
        refine wpc_if (a := 64) (b := 61) rfl (by decide) rfl rfl (wpc_br (p := (a2 / (4 : Int32)) = (0 : Int32)) ⟨fun hc761 => ?_, fun hc761 => ?_⟩)
        · refine wpc_sl (n := 2) (c' := 16) (pc' := 64) (ls' := [some (.ref 0), some (.int a1), some (.int a2), some (.int a3), some (.int a4), some (.int (a2 % (4 : Int32))), some (.int (a2 / (4 : Int32))), some (.int v734), some (.int v737), some (.int (3 : Int32)), none, none]) (st' := []) (s' := s736) rfl ?_
          first | exact hm746 _ (by simp only [if_pos hc761]) | exact wpc_lle (by repeat (first | exact trivial | refine ⟨rfl, ?_⟩)) (hm746 _ (by simp only [if_pos hc761]))
        · first | exact hm746 _ (by simp only [if_neg hc761]) | exact wpc_lle (by repeat (first | exact trivial | refine ⟨rfl, ?_⟩)) (hm746 _ (by simp only [if_neg hc761]))
theorem c12_in  (s : St) (Q : Int32 → St → Prop) (h : Q (gI s 0 31) s) : calI PP 12 16 [.ref 0] s Q := by
  refine cal_of (me := cm12) (ls := [some (.ref 0)]) rfl (Nat.le_of_ble_eq_true rfl) rfl ?_
  refine wpc_sl (n := 2) (c' := 16) (pc' := 4) (ls' := [some (.ref 0)]) (st' := [.int (gI s 0 31)]) (s' := s) rfl ?_
  exact wpc_ret rfl rfl (fun q => absurd q (by decide)) rfl ⟨(gI s 0 31), rfl, h⟩
theorem c14_in  (s : St) (Q : Int32 → St → Prop) (h : Q (gI s 0 40) s) : calI PP 14 16 [.ref 0] s Q := by
  refine cal_of (me := cm14) (ls := [some (.ref 0)]) rfl (Nat.le_of_ble_eq_true rfl) rfl ?_
  refine wpc_sl (n := 2) (c' := 16) (pc' := 4) (ls' := [some (.ref 0)]) (st' := [.int (gI s 0 40)]) (s' := s) rfl ?_
  exact wpc_ret rfl rfl (fun q => absurd q (by decide)) rfl ⟨(gI s 0 40), rfl, h⟩
theorem c29_in (a1 : Int32) (a2 : Int32) (s : St) (Q : Int32 → St → Prop) (h : ((a2 = (0 : Int32)) → inb 64 a1 ∧ Q (gI s 1 (ix a1)) s) ∧ (¬ (a2 = (0 : Int32)) → ((a2 = (1 : Int32)) → inb 64 a1 ∧ Q (gI s 2 (ix a1)) s) ∧ (¬ (a2 = (1 : Int32)) → ((a2 = (2 : Int32)) → inb 64 a1 ∧ Q (gI s 3 (ix a1)) s) ∧ (¬ (a2 = (2 : Int32)) → inb 64 a1 ∧ Q (gI s 4 (ix a1)) s)))) : calI PP 29 16 [.ref 0, .int a1, .int a2] s Q := by
  refine cal_of (me := cm29) (ls := [some (.ref 0), some (.int a1), some (.int a2)]) rfl (Nat.le_of_ble_eq_true rfl) rfl ?_
  refine wpc_sl (n := 1) (c' := 16) (pc' := 1) (ls' := [some (.ref 0), some (.int a1), some (.int a2)]) (st' := [.int a2]) (s' := s) rfl ?_
  refine wpc_if (a := 11) (b := 4) rfl (by decide) rfl rfl (wpc_br (p := a2 = (0 : Int32)) ⟨fun hc834 => ?_, fun hc834 => ?_⟩)
  · have h835 := h.1 hc834
    refine wpc_sl (n := 3) (c' := 16) (pc' := 9) (ls' := [some (.ref 0), some (.int a1), some (.int a2)]) (st' := [.int a1, .ref 1]) (s' := s) rfl ?_
    refine wpc_ldaI (a := 0) (N := 64) (v := (gI s 1 (ix a1))) rfl rfl (by decide) h835.1 rfl ?_
    have h837 := h835.2
    exact wpc_ret rfl rfl (fun q => absurd q (by decide)) rfl ⟨(gI s 1 (ix a1)), rfl, h837⟩
  · have h836 := h.2 hc834
    refine wpc_sl (n := 2) (c' := 16) (pc' := 13) (ls' := [some (.ref 0), some (.int a1), some (.int a2)]) (st' := [.int (1 : Int32), .int a2]) (s' := s) rfl ?_
    refine wpc_icmp (a := 23) (b := 16) rfl (by decide) rfl rfl (wpc_br (p := a2 = (1 : Int32)) ⟨fun hc838 => ?_, fun hc838 => ?_⟩)
    · have h839 := h836.1 hc838
      refine wpc_sl (n := 3) (c' := 16) (pc' := 21) (ls' := [some (.ref 0), some (.int a1), some (.int a2)]) (st' := [.int a1, .ref 2]) (s' := s) rfl ?_
      refine wpc_ldaI (a := 1) (N := 64) (v := (gI s 2 (ix a1))) rfl rfl (by decide) h839.1 rfl ?_
      have h841 := h839.2
      exact wpc_ret rfl rfl (fun q => absurd q (by decide)) rfl ⟨(gI s 2 (ix a1)), rfl, h841⟩
    · have h840 := h836.2 hc838
      refine wpc_sl (n := 2) (c' := 16) (pc' := 25) (ls' := [some (.ref 0), some (.int a1), some (.int a2)]) (st' := [.int (2 : Int32), .int a2]) (s' := s) rfl ?_
      refine wpc_icmp (a := 35) (b := 28) rfl (by decide) rfl rfl (wpc_br (p := a2 = (2 : Int32)) ⟨fun hc842 => ?_, fun hc842 => ?_⟩)
      · have h843 := h840.1 hc842
        refine wpc_sl (n := 3) (c' := 16) (pc' := 33) (ls' := [some (.ref 0), some (.int a1), some (.int a2)]) (st' := [.int a1, .ref 3]) (s' := s) rfl ?_
        refine wpc_ldaI (a := 2) (N := 64) (v := (gI s 3 (ix a1))) rfl rfl (by decide) h843.1 rfl ?_
        have h845 := h843.2
        exact wpc_ret rfl rfl (fun q => absurd q (by decide)) rfl ⟨(gI s 3 (ix a1)), rfl, h845⟩
      · have h844 := h840.2 hc842
        refine wpc_sl (n := 3) (c' := 16) (pc' := 40) (ls' := [some (.ref 0), some (.int a1), some (.int a2)]) (st' := [.int a1, .ref 4]) (s' := s) rfl ?_
        refine wpc_ldaI (a := 3) (N := 64) (v := (gI s 4 (ix a1))) rfl rfl (by decide) h844.1 rfl ?_
        have h846 := h844.2
        exact wpc_ret rfl rfl (fun q => absurd q (by decide)) rfl ⟨(gI s 4 (ix a1)), rfl, h846⟩
theorem c13_in (a1 : Int32) (a2 : Int32) (s : St) (Q : Int32 → St → Prop) (h : calI PP 24 16 [.ref 0, .int a1] s (fun v817 s816 => ((v817 = (0 : Int32)) → Q (-1 : Int32) s816) ∧ (¬ (v817 = (0 : Int32)) → ((a2 < (0 : Int32)) → Q (-1 : Int32) s816) ∧ (¬ (a2 < (0 : Int32)) → (((7 : Int32) < a2) → Q (-1 : Int32) s816) ∧ (¬ ((7 : Int32) < a2) → (((3 : Int32) < a2) → False) ∧ (¬ ((3 : Int32) < a2) → calI PP 29 16 [.ref 0, .int a1, .int a2] s816 (fun v832 s831 => Q v832 s831))))))) : calI PP 13 16 [.ref 0, .int a1, .int a2] s Q := by
  refine cal_of (me := cm13) (ls := [some (.ref 0), some (.int a1), some (.int a2)]) rfl (Nat.le_of_ble_eq_true rfl) rfl ?_
  refine wpc_sl (n := 2) (c' := 16) (pc' := 2) (ls' := [some (.ref 0), some (.int a1), some (.int a2)]) (st' := [.int a1, .ref 0]) (s' := s) rfl ?_
  refine wpc_callI (m' := 24) (me' := cm24) (as := [.int a1]) (r := []) rfl rfl rfl rfl rfl ⟨by decide, (by first | decide | exact Nat.le_of_ble_eq_true rfl), (by first | decide | exact Nat.le_of_ble_eq_true rfl), rfl⟩ (calI.mono h fun v817 s816 h818 => ?_)
  refine wpc_if (a := 10) (b := 8) rfl (by decide) rfl rfl (wpc_br (p := v817 = (0 : Int32)) ⟨fun hc819 => ?_, fun hc819 => ?_⟩)
  · have h820 := h818.1 hc819
    refine wpc_sl (n := 1) (c' := 16) (pc' := 9) (ls' := [some (.ref 0), some (.int a1), some (.int a2)]) (st' := [.int (-1 : Int32)]) (s' := s816) rfl ?_
    exact wpc_ret rfl rfl (fun q => absurd q (by decide)) rfl ⟨(-1 : Int32), rfl, h820⟩
  · have h821 := h818.2 hc819
    refine wpc_sl (n := 1) (c' := 16) (pc' := 11) (ls' := [some (.ref 0), some (.int a1), some (.int a2)]) (st' := [.int a2]) (s' := s816) rfl ?_
    refine wpc_if (a := 20) (b := 14) rfl (by decide) rfl rfl (wpc_br (p := a2 < (0 : Int32)) ⟨fun hc822 => ?_, fun hc822 => ?_⟩)
    · have h823 := h821.1 hc822
      refine wpc_sl (n := 1) (c' := 16) (pc' := 21) (ls' := [some (.ref 0), some (.int a1), some (.int a2)]) (st' := [.int (-1 : Int32)]) (s' := s816) rfl ?_
      exact wpc_ret rfl rfl (fun q => absurd q (by decide)) rfl ⟨(-1 : Int32), rfl, h823⟩
    · have h824 := h821.2 hc822
      refine wpc_sl (n := 2) (c' := 16) (pc' := 17) (ls' := [some (.ref 0), some (.int a1), some (.int a2)]) (st' := [.int (7 : Int32), .int a2]) (s' := s816) rfl ?_
      refine wpc_icmp (a := 22) (b := 20) rfl (by decide) rfl rfl (wpc_br (p := (7 : Int32) < a2) ⟨fun hc825 => ?_, fun hc825 => ?_⟩)
      · have h826 := h824.1 hc825
        refine wpc_sl (n := 1) (c' := 16) (pc' := 21) (ls' := [some (.ref 0), some (.int a1), some (.int a2)]) (st' := [.int (-1 : Int32)]) (s' := s816) rfl ?_
        exact wpc_ret rfl rfl (fun q => absurd q (by decide)) rfl ⟨(-1 : Int32), rfl, h826⟩
      · have h827 := h824.2 hc825
        refine wpc_sl (n := 2) (c' := 16) (pc' := 24) (ls' := [some (.ref 0), some (.int a1), some (.int a2)]) (st' := [.int (3 : Int32), .int a2]) (s' := s816) rfl ?_
        refine wpc_icmp (a := 34) (b := 27) rfl (by decide) rfl rfl (wpc_br (p := (3 : Int32) < a2) ⟨fun hc828 => ?_, fun hc828 => ?_⟩)
        · have h829 := h827.1 hc828
          refine wpc_sl (n := 3) (c' := 16) (pc' := 37) (ls' := [some (.ref 0), some (.int a1), some (.int a2)]) (st' := [.int a2, .int a1, .ref 0]) (s' := s816) rfl ?_
          exact h829.elim
        · have h830 := h827.2 hc828
          refine wpc_sl (n := 3) (c' := 16) (pc' := 30) (ls' := [some (.ref 0), some (.int a1), some (.int a2)]) (st' := [.int a2, .int a1, .ref 0]) (s' := s816) rfl ?_
          refine wpc_callI (m' := 29) (me' := cm29) (as := [.int a1, .int a2]) (r := []) rfl rfl rfl rfl rfl ⟨by decide, (by first | decide | exact Nat.le_of_ble_eq_true rfl), (by first | decide | exact Nat.le_of_ble_eq_true rfl), rfl⟩ (calI.mono h830 fun v832 s831 h833 => ?_)
          exact wpc_ret rfl rfl (fun q => absurd q (by decide)) rfl ⟨v832, rfl, h833⟩
theorem c17_in (a1 : Int32) (a2 : Int32) (s : St) (Q : Int32 → St → Prop) (h : calI PP 22 16 [.ref 0, .int a1] s (fun v883 s882 => ((v883 = (0 : Int32)) → Q (0 : Int32) s882) ∧ (¬ (v883 = (0 : Int32)) → calI PP 24 16 [.ref 0, .int a2] s882 (fun v889 s888 => ((v889 = (0 : Int32)) → Q (0 : Int32) s888) ∧ (¬ (v889 = (0 : Int32)) → calI PP 47 16 [.ref 0, .int a1, .int a2] s888 (fun v895 s894 => inb 256 v895 ∧ Q ((gI s894 12 (ix v895)) &&& 1) s894)))))) : calI PP 17 16 [.ref 0, .int a1, .int a2] s Q := by
  refine cal_of (me := cm17) (ls := [some (.ref 0), some (.int a1), some (.int a2)]) rfl (Nat.le_of_ble_eq_true rfl) rfl ?_
  refine wpc_sl (n := 2) (c' := 16) (pc' := 2) (ls' := [some (.ref 0), some (.int a1), some (.int a2)]) (st' := [.int a1, .ref 0]) (s' := s) rfl ?_
  refine wpc_callI (m' := 22) (me' := cm22) (as := [.int a1]) (r := []) rfl rfl rfl rfl rfl ⟨by decide, (by first | decide | exact Nat.le_of_ble_eq_true rfl), (by first | decide | exact Nat.le_of_ble_eq_true rfl), rfl⟩ (calI.mono h fun v883 s882 h884 => ?_)
  refine wpc_if (a := 10) (b := 8) rfl (by decide) rfl rfl (wpc_br (p := v883 = (0 : Int32)) ⟨fun hc885 => ?_, fun hc885 => ?_⟩)
  · have h886 := h884.1 hc885
    refine wpc_sl (n := 1) (c' := 16) (pc' := 9) (ls' := [some (.ref 0), some (.int a1), some (.int a2)]) (st' := [.int (0 : Int32)]) (s' := s882) rfl ?_
    exact wpc_ret rfl rfl (fun q => absurd q (by decide)) rfl ⟨(0 : Int32), rfl, h886⟩
  · have h887 := h884.2 hc885
    refine wpc_sl (n := 2) (c' := 16) (pc' := 12) (ls' := [some (.ref 0), some (.int a1), some (.int a2)]) (st' := [.int a2, .ref 0]) (s' := s882) rfl ?_
    refine wpc_callI (m' := 24) (me' := cm24) (as := [.int a2]) (r := []) rfl rfl rfl rfl rfl ⟨by decide, (by first | decide | exact Nat.le_of_ble_eq_true rfl), (by first | decide | exact Nat.le_of_ble_eq_true rfl), rfl⟩ (calI.mono h887 fun v889 s888 h890 => ?_)
    refine wpc_if (a := 20) (b := 18) rfl (by decide) rfl rfl (wpc_br (p := v889 = (0 : Int32)) ⟨fun hc891 => ?_, fun hc891 => ?_⟩)
    · have h892 := h890.1 hc891
      refine wpc_sl (n := 1) (c' := 16) (pc' := 19) (ls' := [some (.ref 0), some (.int a1), some (.int a2)]) (st' := [.int (0 : Int32)]) (s' := s888) rfl ?_
      exact wpc_ret rfl rfl (fun q => absurd q (by decide)) rfl ⟨(0 : Int32), rfl, h892⟩
    · have h893 := h890.2 hc891
      refine wpc_sl (n := 5) (c' := 16) (pc' := 27) (ls' := [some (.ref 0), some (.int a1), some (.int a2)]) (st' := [.int a2, .int a1, .ref 0, .ref 12]) (s' := s888) rfl ?_
      refine wpc_callI (m' := 47) (me' := cm47) (as := [.int a1, .int a2]) (r := [.ref 12]) rfl rfl rfl rfl rfl ⟨by decide, (by first | decide | exact Nat.le_of_ble_eq_true rfl), (by first | decide | exact Nat.le_of_ble_eq_true rfl), rfl⟩ (calI.mono h893 fun v895 s894 h896 => ?_)
      refine wpc_ldaZ (a := 11) (N := 256) (v := (gI s894 12 (ix v895))) rfl rfl (by decide) h896.1 rfl ?_
      have h897 := h896.2
      exact wpc_ret rfl rfl (fun q => absurd q (by decide)) rfl ⟨((gI s894 12 (ix v895)) &&& 1), rfl, h897⟩
theorem l5r1W1_in (N : Nat) (sg : Nat → Int32) (a1 : Int32) (a2 : Int64) (a3 : Int32) (s : St) (Q : Int32 → Wd → Prop) (h : wplI PP QQ (some (N, sg)) 5 lm5 6 [some (.ref 1), some (.int a1), some (.long a2), none, some (.int a3), some (.int (0 : Int32)), some (.int (0 : Int32)), none, none] [] (W1 s) Q) : lalI PP QQ (some (N, sg)) 5 [.ref 1, .int a1, .long a2, .int a3] (W1 s) Q := by
  refine lal_of (me := lm5) (ls := [some (.ref 1), some (.int a1), some (.long a2), none, some (.int a3), none, none, none, none]) rfl (Nat.le_of_ble_eq_true rfl) rfl ?_
  refine wpl_sl (n := 4) (pc' := 6) (ls' := [some (.ref 1), some (.int a1), some (.long a2), none, some (.int a3), some (.int (0 : Int32)), some (.int (0 : Int32)), none, none]) (st' := []) rfl ?_
  exact h
theorem l5r1W1_6 (N : Nat) (sg : Nat → Int32) (x1 : Int32) (x2 : Int64) (x4 : Int32) (x5 : Int32) (x6 : Int32) (s : St) (Q : Int32 → Wd → Prop) (h : ((x6 < x4) → ∀ m850, m850 = (if (XT.cmpL ((XT.ushrL x2 x6) &&& (1 : Int64)) (0 : Int64)) = (0 : Int32) then (0 : Int32) else (1 : Int32)) → (calI PP 17 16 [.ref 0, .int x1, .int x6] s (fun v854 s853 => ((v854 = m850) → ((m850 = (0 : Int32)) → wplI PP QQ (some (N, sg)) 5 lm5 70 [some (.ref 1), some (.int x1), some (.long x2), none, some (.int x4), some (.int x5), some (.int x6), none, none] [] (W1 s853) Q) ∧ (¬ (m850 = (0 : Int32)) → calI PP 13 16 [.ref 0, .int x6, .int (2 : Int32)] s853 (fun v863 s862 => ∀ m865, m865 = (if x5 < v863 then v863 else x5) → (wplI PP QQ (some (N, sg)) 5 lm5 70 [some (.ref 1), some (.int x1), some (.long x2), none, some (.int x4), some (.int m865), some (.int x6), none, none] [] (W1 s862) Q)))) ∧ (¬ (v854 = m850) → Q (0 : Int32) (W1 s853))))) ∧ (¬ (x6 < x4) → ((x4 < (64 : Int32)) → (((XT.cmpL (XT.ushrL x2 x4) (0 : Int64)) = (0 : Int32)) → wplI PP QQ (some (N, sg)) 5 lm5 94 [some (.ref 1), some (.int x1), none, none, none, some (.int x5), none, none, none] [] (W1 s) Q) ∧ (¬ ((XT.cmpL (XT.ushrL x2 x4) (0 : Int64)) = (0 : Int32)) → Q (0 : Int32) (W1 s))) ∧ (¬ (x4 < (64 : Int32)) → wplI PP QQ (some (N, sg)) 5 lm5 94 [some (.ref 1), some (.int x1), none, none, none, some (.int x5), none, none, none] [] (W1 s) Q))) : wplI PP QQ (some (N, sg)) 5 lm5 6 [some (.ref 1), some (.int x1), some (.long x2), none, some (.int x4), some (.int x5), some (.int x6), none, none] [] (W1 s) Q := by
  refine wpl_sl (n := 2) (pc' := 10) (ls' := [some (.ref 1), some (.int x1), some (.long x2), none, some (.int x4), some (.int x5), some (.int x6), none, none]) (st' := [.int x4, .int x6]) rfl ?_
  refine wpl_icmp (a := 76) (b := 13) rfl (by decide) rfl rfl (wpl_br (p := x6 < x4) ⟨fun hc847 => ?_, fun hc847 => ?_⟩)
  · have h848 := h.1 hc847
    refine wpl_sl (n := 7) (pc' := 21) (ls' := [some (.ref 1), some (.int x1), some (.long x2), none, some (.int x4), some (.int x5), some (.int x6), none, none]) (st' := [.int (XT.cmpL ((XT.ushrL x2 x6) &&& (1 : Int64)) (0 : Int64))]) rfl ?_
    have hm851 : ∀ m850, m850 = (if (XT.cmpL ((XT.ushrL x2 x6) &&& (1 : Int64)) (0 : Int64)) = (0 : Int32) then (0 : Int32) else (1 : Int32)) → wplI PP QQ (some (N, sg)) 5 lm5 29 [some (.ref 1), some (.int x1), some (.long x2), none, some (.int x4), some (.int x5), some (.int x6), none, none] [.int m850] (W1 s) Q := by
      intro m850 em850
      have h852 := h848 m850 em850
      refine wpl_sl (n := 4) (pc' := 35) (ls' := [some (.ref 1), some (.int x1), some (.long x2), none, some (.int x4), some (.int x5), some (.int x6), some (.int m850), none]) (st' := [.int x6, .int x1, .ref 1]) rfl ?_
      refine wpl_v1 (m' := 17) (me' := cm17) (as := [.int x1, .int x6]) (r := []) rfl rfl rfl rfl rfl ⟨by decide, (by first | decide | exact Nat.le_of_ble_eq_true rfl), (by first | decide | exact Nat.le_of_ble_eq_true rfl), rfl⟩ (cal_I (calI.mono h852 fun v854 s853 h855 => ?_))
      refine wpl_sl (n := 1) (pc' := 40) (ls' := [some (.ref 1), some (.int x1), some (.long x2), none, some (.int x4), some (.int x5), some (.int x6), some (.int m850), none]) (st' := [.int m850, .int v854]) rfl ?_
      refine wpl_icmp (a := 45) (b := 43) rfl (by decide) rfl rfl (wpl_br (p := v854 = m850) ⟨fun hc856 => ?_, fun hc856 => ?_⟩)
      · have h857 := h855.1 hc856
        refine wpl_sl (n := 1) (pc' := 47) (ls' := [some (.ref 1), some (.int x1), some (.long x2), none, some (.int x4), some (.int x5), some (.int x6), some (.int m850), none]) (st' := [.int m850]) rfl ?_
        refine wpl_if (a := 70) (b := 50) rfl (by decide) rfl rfl (wpl_br (p := m850 = (0 : Int32)) ⟨fun hc859 => ?_, fun hc859 => ?_⟩)
        · have h860 := h857.1 hc859
          exact wpl_lle (ls := [some (.ref 1), some (.int x1), some (.long x2), none, some (.int x4), some (.int x5), some (.int x6), none, none]) ⟨rfl, rfl, rfl, rfl, rfl, rfl, trivial⟩ h860
        · have h861 := h857.2 hc859
          refine wpl_sl (n := 3) (pc' := 54) (ls' := [some (.ref 1), some (.int x1), some (.long x2), none, some (.int x4), some (.int x5), some (.int x6), some (.int m850), none]) (st' := [.int (2 : Int32), .int x6, .ref 1]) rfl ?_
          refine wpl_v1 (m' := 13) (me' := cm13) (as := [.int x6, .int (2 : Int32)]) (r := []) rfl rfl rfl rfl rfl ⟨by decide, (by first | decide | exact Nat.le_of_ble_eq_true rfl), (by first | decide | exact Nat.le_of_ble_eq_true rfl), rfl⟩ (cal_I (calI.mono h861 fun v863 s862 h864 => ?_))
          refine wpl_sl (n := 3) (pc' := 63) (ls' := [some (.ref 1), some (.int x1), some (.long x2), none, some (.int x4), some (.int x5), some (.int x6), some (.int m850), some (.int v863)]) (st' := [.int x5, .int v863]) rfl ?_
          have hm866 : ∀ m865, m865 = (if x5 < v863 then v863 else x5) → wplI PP QQ (some (N, sg)) 5 lm5 70 [some (.ref 1), some (.int x1), some (.long x2), none, some (.int x4), some (.int m865), some (.int x6), some (.int m850), some (.int v863)] [] (W1 s862) Q := by
            intro m865 em865
            have h867 := h864 m865 em865
            exact wpl_lle (ls := [some (.ref 1), some (.int x1), some (.long x2), none, some (.int x4), some (.int m865), some (.int x6), none, none]) ⟨rfl, rfl, rfl, rfl, rfl, rfl, trivial⟩ h867
          refine wpl_icmp (a := 70) (b := 66) rfl (by decide) rfl rfl (wpl_br (p := x5 < v863) ⟨fun hc868 => ?_, fun hc868 => ?_⟩)
          · refine wpl_sl (n := 2) (pc' := 70) (ls' := [some (.ref 1), some (.int x1), some (.long x2), none, some (.int x4), some (.int v863), some (.int x6), some (.int m850), some (.int v863)]) (st' := []) rfl ?_
            first | exact hm866 _ (by simp only [if_pos hc868]) | exact wpl_lle (by repeat (first | exact trivial | refine ⟨rfl, ?_⟩)) (hm866 _ (by simp only [if_pos hc868]))
          · first | exact hm866 _ (by simp only [if_neg hc868]) | exact wpl_lle (by repeat (first | exact trivial | refine ⟨rfl, ?_⟩)) (hm866 _ (by simp only [if_neg hc868]))
      · have h858 := h855.2 hc856
        refine wpl_sl (n := 1) (pc' := 44) (ls' := [some (.ref 1), some (.int x1), some (.long x2), none, some (.int x4), some (.int x5), some (.int x6), some (.int m850), none]) (st' := [.int (0 : Int32)]) rfl ?_
        exact wpl_ret rfl rfl rfl ⟨(0 : Int32), rfl, h858⟩
    refine wpl_if (a := 28) (b := 24) rfl (by decide) rfl rfl (wpl_br (p := (XT.cmpL ((XT.ushrL x2 x6) &&& (1 : Int64)) (0 : Int64)) = (0 : Int32)) ⟨fun hc869 => ?_, fun hc869 => ?_⟩)
    · refine wpl_sl (n := 1) (pc' := 29) (ls' := [some (.ref 1), some (.int x1), some (.long x2), none, some (.int x4), some (.int x5), some (.int x6), none, none]) (st' := [.int (0 : Int32)]) rfl ?_
      first | exact hm851 _ (by simp only [if_pos hc869]) | exact wpl_lle (by repeat (first | exact trivial | refine ⟨rfl, ?_⟩)) (hm851 _ (by simp only [if_pos hc869]))
    · refine wpl_sl (n := 2) (pc' := 29) (ls' := [some (.ref 1), some (.int x1), some (.long x2), none, some (.int x4), some (.int x5), some (.int x6), none, none]) (st' := [.int (1 : Int32)]) rfl ?_
      first | exact hm851 _ (by simp only [if_neg hc869]) | exact wpl_lle (by repeat (first | exact trivial | refine ⟨rfl, ?_⟩)) (hm851 _ (by simp only [if_neg hc869]))
  · have h849 := h.2 hc847
    refine wpl_sl (n := 2) (pc' := 80) (ls' := [some (.ref 1), some (.int x1), some (.long x2), none, some (.int x4), some (.int x5), some (.int x6), none, none]) (st' := [.int (64 : Int32), .int x4]) rfl ?_
    refine wpl_icmp (a := 94) (b := 83) rfl (by decide) rfl rfl (wpl_br (p := x4 < (64 : Int32)) ⟨fun hc870 => ?_, fun hc870 => ?_⟩)
    · have h871 := h849.1 hc870
      refine wpl_sl (n := 5) (pc' := 89) (ls' := [some (.ref 1), some (.int x1), some (.long x2), none, some (.int x4), some (.int x5), some (.int x6), none, none]) (st' := [.int (XT.cmpL (XT.ushrL x2 x4) (0 : Int64))]) rfl ?_
      refine wpl_if (a := 94) (b := 92) rfl (by decide) rfl rfl (wpl_br (p := (XT.cmpL (XT.ushrL x2 x4) (0 : Int64)) = (0 : Int32)) ⟨fun hc873 => ?_, fun hc873 => ?_⟩)
      · have h874 := h871.1 hc873
        exact wpl_lle (ls := [some (.ref 1), some (.int x1), none, none, none, some (.int x5), none, none, none]) ⟨rfl, rfl, rfl, trivial⟩ h874
      · have h875 := h871.2 hc873
        refine wpl_sl (n := 1) (pc' := 93) (ls' := [some (.ref 1), some (.int x1), some (.long x2), none, some (.int x4), some (.int x5), some (.int x6), none, none]) (st' := [.int (0 : Int32)]) rfl ?_
        exact wpl_ret rfl rfl rfl ⟨(0 : Int32), rfl, h875⟩
    · have h872 := h849.2 hc870
      exact wpl_lle (ls := [some (.ref 1), some (.int x1), none, none, none, some (.int x5), none, none, none]) ⟨rfl, rfl, rfl, trivial⟩ h872
theorem l5r1W1_70 (N : Nat) (sg : Nat → Int32) (x1 : Int32) (x2 : Int64) (x4 : Int32) (x5 : Int32) (x6 : Int32) (s : St) (Q : Int32 → Wd → Prop) (h : wplI PP QQ (some (N, sg)) 5 lm5 6 [some (.ref 1), some (.int x1), some (.long x2), none, some (.int x4), some (.int x5), some (.int (x6 + (1 : Int32))), none, none] [] (W1 s) Q) : wplI PP QQ (some (N, sg)) 5 lm5 70 [some (.ref 1), some (.int x1), some (.long x2), none, some (.int x4), some (.int x5), some (.int x6), none, none] [] (W1 s) Q := by
  refine wpl_sl (n := 2) (pc' := 6) (ls' := [some (.ref 1), some (.int x1), some (.long x2), none, some (.int x4), some (.int x5), some (.int (x6 + (1 : Int32))), none, none]) (st' := []) rfl ?_
  exact h
theorem l5r1W1_94 (N : Nat) (sg : Nat → Int32) (x1 : Int32) (x5 : Int32) (s : St) (Q : Int32 → Wd → Prop) (h : calI PP 16 16 [.ref 0, .int x1] s (fun v877 s876 => ((v877 = x5) → Q (1 : Int32) (W1 s876)) ∧ (¬ (v877 = x5) → Q (0 : Int32) (W1 s876)))) : wplI PP QQ (some (N, sg)) 5 lm5 94 [some (.ref 1), some (.int x1), none, none, none, some (.int x5), none, none, none] [] (W1 s) Q := by
  refine wpl_sl (n := 2) (pc' := 96) (ls' := [some (.ref 1), some (.int x1), none, none, none, some (.int x5), none, none, none]) (st' := [.int x1, .ref 1]) rfl ?_
  refine wpl_v1 (m' := 16) (me' := cm16) (as := [.int x1]) (r := []) rfl rfl rfl rfl rfl ⟨by decide, (by first | decide | exact Nat.le_of_ble_eq_true rfl), (by first | decide | exact Nat.le_of_ble_eq_true rfl), rfl⟩ (cal_I (calI.mono h fun v877 s876 h878 => ?_))
  refine wpl_sl (n := 1) (pc' := 101) (ls' := [some (.ref 1), some (.int x1), none, none, none, some (.int x5), none, none, none]) (st' := [.int x5, .int v877]) rfl ?_
  refine wpl_icmp (a := 108) (b := 104) rfl (by decide) rfl rfl (wpl_br (p := v877 = x5) ⟨fun hc879 => ?_, fun hc879 => ?_⟩)
  · have h880 := h878.1 hc879
    refine wpl_sl (n := 2) (pc' := 109) (ls' := [some (.ref 1), some (.int x1), none, none, none, some (.int x5), none, none, none]) (st' := [.int (1 : Int32)]) rfl ?_
    exact wpl_ret rfl rfl rfl ⟨(1 : Int32), rfl, h880⟩
  · have h881 := h878.2 hc879
    refine wpl_sl (n := 1) (pc' := 109) (ls' := [some (.ref 1), some (.int x1), none, none, none, some (.int x5), none, none, none]) (st' := [.int (0 : Int32)]) rfl ?_
    exact wpl_ret rfl rfl rfl ⟨(0 : Int32), rfl, h881⟩
theorem l0_in (N : Nat) (sg : Nat → Int32)   (Q : Int32 → Wd → Prop) (h : calV PP 0 0 [.ref 0, .int (16 : Int32), .int (64 : Int32), .int (32 : Int32)] s0 (fun s1 => wplI PP QQ (some (N, sg)) 0 lm0 34 [some (.ref 0), some (.ref 1), some (.long (0 : Int64)), none, some (.long (0 : Int64)), none, some (.long (0 : Int64)), none, some (.long (0 : Int64)), none, some (.int (0 : Int32)), some (.int (0 : Int32)), some (.int (0 : Int32)), none, none, none, none, none, none, none, none, none, none, none, none, none, none] [] (W1 s1) Q)) : lalI PP QQ (some (N, sg)) 0 [.ref 0] W0 Q := by
  refine lal_of (me := lm0) (ls := [some (.ref 0), none, none, none, none, none, none, none, none, none, none, none, none, none, none, none, none, none, none, none, none, none, none, none, none, none, none]) rfl (Nat.le_of_ble_eq_true rfl) rfl ?_
  refine wpl_new0 rfl rfl (by decide) (by decide) ?_
  refine wpl_sl (n := 4) (pc' := 10) (ls' := [some (.ref 0), none, none, none, none, none, none, none, none, none, none, none, none, none, none, none, none, none, none, none, none, none, none, none, none, none, none]) (st' := [.int (32 : Int32), .int (64 : Int32), .int (16 : Int32), .ref 1, .ref 1]) rfl ?_
  refine wpl_ctor0 (me' := cm0) (as := [.int (16 : Int32), .int (64 : Int32), .int (32 : Int32)]) (r := [.ref 1]) rfl rfl rfl rfl rfl ⟨by decide, by decide, rfl, by decide, by decide⟩ (calV.mono h fun s1 h2 => ?_)
  refine wpl_sl (n := 5) (pc' := 19) (ls' := [some (.ref 0), some (.ref 1), some (.long (0 : Int64)), none, some (.long (0 : Int64)), none, none, none, none, none, none, none, none, none, none, none, none, none, none, none, none, none, none, none, none, none, none]) (st' := []) rfl ?_
  refine wpl_sl (n := 5) (pc' := 26) (ls' := [some (.ref 0), some (.ref 1), some (.long (0 : Int64)), none, some (.long (0 : Int64)), none, some (.long (0 : Int64)), none, some (.long (0 : Int64)), none, none, none, none, none, none, none, none, none, none, none, none, none, none, none, none, none, none]) (st' := [.int (0 : Int32)]) rfl ?_
  refine wpl_sl (n := 5) (pc' := 34) (ls' := [some (.ref 0), some (.ref 1), some (.long (0 : Int64)), none, some (.long (0 : Int64)), none, some (.long (0 : Int64)), none, some (.long (0 : Int64)), none, some (.int (0 : Int32)), some (.int (0 : Int32)), some (.int (0 : Int32)), none, none, none, none, none, none, none, none, none, none, none, none, none, none]) (st' := []) rfl ?_
  exact h2
theorem l0_34 (N : Nat) (sg : Nat → Int32) (x2 : Int64) (x4 : Int64) (x6 : Int64) (x8 : Int64) (x10 : Int32) (x11 : Int32) (x12 : Int32)  (Q : Int32 → Wd → Prop) (h : (((x12 + (3 : Int32)) < (Int32.ofNat N)) → inb N x12 ∧ inb N (x12 + (1 : Int32)) ∧ inb N (x12 + (2 : Int32)) ∧ inb N (x12 + (3 : Int32)) ∧ (¬ ((x11 + (1 : Int32)) = (0 : Int32))) ∧ (((2 : Int32) < ((sg (ix x12)) &&& (7 : Int32))) → ((((sg (ix x12)) &&& (7 : Int32)) = (7 : Int32)) → wplI PP QQ (some (N, sg)) 0 lm0 109 [some (.ref 0), some (.ref 1), some (.long x2), none, some (.long x4), none, some (.long x6), none, some (.long x8), none, some (.int x10), some (.int x11), some (.int x12), some (.int ((sg (ix x12)) &&& (7 : Int32))), some (.int ((sg (ix (x12 + (1 : Int32)))) &&& (3 : Int32))), some (.int (sg (ix (x12 + (2 : Int32))))), some (.int (sg (ix (x12 + (3 : Int32))))), none, some (.int (-1 : Int32)), some (.long (0 : Int64)), none, none, none, none, none, none, none] [] (W1 s) Q) ∧ (¬ (((sg (ix x12)) &&& (7 : Int32)) = (7 : Int32)) → ((((sg (ix x12)) &&& (7 : Int32)) = (3 : Int32)) → calI PP 15 16 [.ref 0, .int (((sg (ix (x12 + (2 : Int32)))) &&& (2147483647 : Int32)) % (x11 + (1 : Int32)))] s (fun v21 s20 => calI PP 5 16 [.ref 0, .int (((sg (ix (x12 + (2 : Int32)))) &&& (2147483647 : Int32)) % (x11 + (1 : Int32))), .int ((sg (ix (x12 + (1 : Int32)))) &&& (3 : Int32))] s20 (fun v24 s23 => ∀ m26, m26 = (if (((sg (ix (x12 + (2 : Int32)))) &&& (2147483647 : Int32)) % (x11 + (1 : Int32))) < x11 then (1 : Int32) else (0 : Int32)) → (((v24 = m26) → ((v24 = (0 : Int32)) → wplI PP QQ (some (N, sg)) 0 lm0 435 [some (.ref 0), some (.ref 1), some (.long x2), none, some (.long x4), none, some (.long x6), none, some (.long x8), none, some (.int x10), some (.int x11), some (.int x12), none, none, none, none, none, some (.int (-1 : Int32)), some (.long (0 : Int64)), none, none, none, none, none, none, none] [] (W1 s23) Q) ∧ (¬ (v24 = (0 : Int32)) → ((v21 < (0 : Int32)) → Q (0 : Int32) (W1 s23)) ∧ (¬ (v21 < (0 : Int32)) → ((v21 < x10) → wplI PP QQ (some (N, sg)) 0 lm0 435 [some (.ref 0), some (.ref 1), some (.long x2), none, some (.long x4), none, some (.long x6), none, some (.long x8), none, some (.int x10), some (.int (x11 + (-1 : Int32))), some (.int x12), none, none, none, none, none, some (.int ((sg (ix (x12 + (1 : Int32)))) &&& (3 : Int32))), some (.long ((1 : Int64) <<< ((v21).toInt64 &&& 63))), none, none, none, none, none, none, none] [] (W1 s23) Q) ∧ (¬ (v21 < x10) → Q (0 : Int32) (W1 s23))))) ∧ (¬ (v24 = m26) → Q (0 : Int32) (W1 s23)))))) ∧ (¬ (((sg (ix x12)) &&& (7 : Int32)) = (3 : Int32)) → ((((sg (ix x12)) &&& (7 : Int32)) = (4 : Int32)) → calI PP 6 16 [.ref 0, .int (((sg (ix (x12 + (2 : Int32)))) &&& (2147483647 : Int32)) % (x11 + (1 : Int32)))] s (fun v46 s45 => ∀ m48, m48 = (if (((sg (ix (x12 + (2 : Int32)))) &&& (2147483647 : Int32)) % (x11 + (1 : Int32))) < x11 then (if x11 < (32 : Int32) then (1 : Int32) else (0 : Int32)) else (0 : Int32)) → (((v46 = m48) → ∀ m54, m54 = (if v46 = (0 : Int32) then x11 else (x11 + (1 : Int32))) → (wplI PP QQ (some (N, sg)) 0 lm0 619 [some (.ref 0), some (.ref 1), some (.long x2), none, some (.long x4), none, some (.long x6), none, some (.long x8), none, some (.int x10), some (.int m54), some (.int x12), none, none, none, none, none, some (.int (-1 : Int32)), some (.long (0 : Int64)), none, none, none, none, none, none, none] [] (W1 s45) Q)) ∧ (¬ (v46 = m48) → Q (0 : Int32) (W1 s45))))) ∧ (¬ (((sg (ix x12)) &&& (7 : Int32)) = (4 : Int32)) → ((((sg (ix x12)) &&& (7 : Int32)) = (5 : Int32)) → calI PP 7 16 [.ref 0, .int (((sg (ix (x12 + (2 : Int32)))) &&& (2147483647 : Int32)) % (x11 + (1 : Int32)))] s (fun v64 s63 => ∀ m66, m66 = (if (((sg (ix (x12 + (2 : Int32)))) &&& (2147483647 : Int32)) % (x11 + (1 : Int32))) < x11 then (1 : Int32) else (0 : Int32)) → (((v64 = m66) → ∀ m72, m72 = (if v64 = (0 : Int32) then x11 else (x11 + (-1 : Int32))) → (wplI PP QQ (some (N, sg)) 0 lm0 619 [some (.ref 0), some (.ref 1), some (.long x2), none, some (.long x4), none, some (.long x6), none, some (.long x8), none, some (.int x10), some (.int m72), some (.int x12), none, none, none, none, none, some (.int (-1 : Int32)), some (.long (0 : Int64)), none, none, none, none, none, none, none] [] (W1 s63) Q)) ∧ (¬ (v64 = m66) → Q (0 : Int32) (W1 s63))))) ∧ (¬ (((sg (ix x12)) &&& (7 : Int32)) = (5 : Int32)) → lalL PP QQ (some (N, sg)) 3 [.int ((sg (ix (x12 + (1 : Int32)))) &&& (3 : Int32)), .long x2, .long x4, .long x6, .long x8] (W1 s) (fun v78 w77 => ∃ s80, w77 = W1 s80 ∧ (lalL PP QQ (some (N, sg)) 3 [.int ((sg (ix (x12 + (3 : Int32)))) &&& (3 : Int32)), .long x2, .long x4, .long x6, .long x8] (W1 s80) (fun v82 w81 => ∃ s84, w81 = W1 s84 ∧ (calI PP 8 16 [.ref 0, .int ((sg (ix (x12 + (1 : Int32)))) &&& (3 : Int32)), .int ((sg (ix (x12 + (3 : Int32)))) &&& (3 : Int32))] s84 (fun v86 s85 => ((((sg (ix (x12 + (1 : Int32)))) &&& (3 : Int32)) = ((sg (ix (x12 + (3 : Int32)))) &&& (3 : Int32))) → ((v86 = (-1 : Int32)) → wplI PP QQ (some (N, sg)) 0 lm0 619 [some (.ref 0), some (.ref 1), some (.long x2), none, some (.long x4), none, some (.long x6), none, some (.long x8), none, some (.int x10), some (.int x11), some (.int x12), none, none, none, none, none, some (.int (-1 : Int32)), some (.long (0 : Int64)), none, none, none, none, none, none, none] [] (W1 s85) Q) ∧ (¬ (v86 = (-1 : Int32)) → Q (0 : Int32) (W1 s85))) ∧ (¬ (((sg (ix (x12 + (1 : Int32)))) &&& (3 : Int32)) = ((sg (ix (x12 + (3 : Int32)))) &&& (3 : Int32))) → lalI PP QQ (some (N, sg)) 4 [.long (v78 &&& (v82 ^^^ (-1 : Int64)))] (W1 s85) (fun v95 w94 => ∃ s97, w94 = W1 s97 ∧ (((v86 = v95) → wplI PP QQ (some (N, sg)) 0 lm0 619 [some (.ref 0), some (.ref 1), some (.long x2), none, some (.long x4), none, some (.long x6), none, some (.long x8), none, some (.int x10), some (.int x11), some (.int x12), none, none, none, none, none, some (.int ((sg (ix (x12 + (3 : Int32)))) &&& (3 : Int32))), some (.long v78), none, none, none, none, none, none, none] [] (W1 s97) Q) ∧ (¬ (v86 = v95) → Q (0 : Int32) (W1 s97))))))))))))))) ∧ (¬ ((2 : Int32) < ((sg (ix x12)) &&& (7 : Int32))) → wplI PP QQ (some (N, sg)) 0 lm0 109 [some (.ref 0), some (.ref 1), some (.long x2), none, some (.long x4), none, some (.long x6), none, some (.long x8), none, some (.int x10), some (.int x11), some (.int x12), some (.int ((sg (ix x12)) &&& (7 : Int32))), some (.int ((sg (ix (x12 + (1 : Int32)))) &&& (3 : Int32))), some (.int (sg (ix (x12 + (2 : Int32))))), some (.int (sg (ix (x12 + (3 : Int32))))), none, some (.int (-1 : Int32)), some (.long (0 : Int64)), none, none, none, none, none, none, none] [] (W1 s) Q)) ∧ (¬ ((x12 + (3 : Int32)) < (Int32.ofNat N)) → Q (1 : Int32) (W1 s))) : wplI PP QQ (some (N, sg)) 0 lm0 34 [some (.ref 0), some (.ref 1), some (.long x2), none, some (.long x4), none, some (.long x6), none, some (.long x8), none, some (.int x10), some (.int x11), some (.int x12), none, none, none, none, none, none, none, none, none, none, none, none, none, none] [] (W1 s) Q := by
  refine wpl_sl (n := 4) (pc' := 39) (ls' := [some (.ref 0), some (.ref 1), some (.long x2), none, some (.long x4), none, some (.long x6), none, some (.long x8), none, some (.int x10), some (.int x11), some (.int x12), none, none, none, none, none, none, none, none, none, none, none, none, none, none]) (st' := [.ref 0, .int (x12 + (3 : Int32))]) rfl ?_
  refine wpl_len rfl ?_
  refine wpl_icmp (a := 792) (b := 43) rfl (by decide) rfl rfl (wpl_br (p := (x12 + (3 : Int32)) < (Int32.ofNat N)) ⟨fun hc3 => ?_, fun hc3 => ?_⟩)
  · have h4 := h.1 hc3
    refine wpl_sl (n := 2) (pc' := 46) (ls' := [some (.ref 0), some (.ref 1), some (.long x2), none, some (.long x4), none, some (.long x6), none, some (.long x8), none, some (.int x10), some (.int x11), some (.int x12), none, none, none, none, none, none, none, none, none, none, none, none, none, none]) (st' := [.int x12, .ref 0]) rfl ?_
    refine wpl_lda rfl h4.1 ?_
    have h6 := h4.2
    refine wpl_sl (n := 7) (pc' := 57) (ls' := [some (.ref 0), some (.ref 1), some (.long x2), none, some (.long x4), none, some (.long x6), none, some (.long x8), none, some (.int x10), some (.int x11), some (.int x12), some (.int ((sg (ix x12)) &&& (7 : Int32))), none, none, none, none, none, none, none, none, none, none, none, none, none]) (st' := [.int (x12 + (1 : Int32)), .ref 0]) rfl ?_
    refine wpl_lda rfl h6.1 ?_
    have h7 := h6.2
    refine wpl_sl (n := 7) (pc' := 67) (ls' := [some (.ref 0), some (.ref 1), some (.long x2), none, some (.long x4), none, some (.long x6), none, some (.long x8), none, some (.int x10), some (.int x11), some (.int x12), some (.int ((sg (ix x12)) &&& (7 : Int32))), some (.int ((sg (ix (x12 + (1 : Int32)))) &&& (3 : Int32))), none, none, none, none, none, none, none, none, none, none, none, none]) (st' := [.int (x12 + (2 : Int32)), .ref 0]) rfl ?_
    refine wpl_lda rfl h7.1 ?_
    have h8 := h7.2
    refine wpl_sl (n := 5) (pc' := 75) (ls' := [some (.ref 0), some (.ref 1), some (.long x2), none, some (.long x4), none, some (.long x6), none, some (.long x8), none, some (.int x10), some (.int x11), some (.int x12), some (.int ((sg (ix x12)) &&& (7 : Int32))), some (.int ((sg (ix (x12 + (1 : Int32)))) &&& (3 : Int32))), some (.int (sg (ix (x12 + (2 : Int32))))), none, none, none, none, none, none, none, none, none, none, none]) (st' := [.int (x12 + (3 : Int32)), .ref 0]) rfl ?_
    refine wpl_lda rfl h8.1 ?_
    have h9 := h8.2
    refine wpl_sl (n := 7) (pc' := 87) (ls' := [some (.ref 0), some (.ref 1), some (.long x2), none, some (.long x4), none, some (.long x6), none, some (.long x8), none, some (.int x10), some (.int x11), some (.int x12), some (.int ((sg (ix x12)) &&& (7 : Int32))), some (.int ((sg (ix (x12 + (1 : Int32)))) &&& (3 : Int32))), some (.int (sg (ix (x12 + (2 : Int32))))), some (.int (sg (ix (x12 + (3 : Int32))))), none, none, none, none, none, none, none, none, none, none]) (st' := [.int (x11 + (1 : Int32)), .int ((sg (ix (x12 + (2 : Int32)))) &&& (2147483647 : Int32))]) rfl ?_
    refine wpl_irem rfl h9.1 ?_
    have h10 := h9.2
    refine wpl_sl (n := 7) (pc' := 99) (ls' := [some (.ref 0), some (.ref 1), some (.long x2), none, some (.long x4), none, some (.long x6), none, some (.long x8), none, some (.int x10), some (.int x11), some (.int x12), some (.int ((sg (ix x12)) &&& (7 : Int32))), some (.int ((sg (ix (x12 + (1 : Int32)))) &&& (3 : Int32))), some (.int (sg (ix (x12 + (2 : Int32))))), some (.int (sg (ix (x12 + (3 : Int32))))), some (.int (((sg (ix (x12 + (2 : Int32)))) &&& (2147483647 : Int32)) % (x11 + (1 : Int32)))), some (.int (-1 : Int32)), some (.long (0 : Int64)), none, none, none, none, none, none, none]) (st' := [.int (2 : Int32), .int ((sg (ix x12)) &&& (7 : Int32))]) rfl ?_
    refine wpl_icmp (a := 109) (b := 102) rfl (by decide) rfl rfl (wpl_br (p := (2 : Int32) < ((sg (ix x12)) &&& (7 : Int32))) ⟨fun hc11 => ?_, fun hc11 => ?_⟩)
    · have h12 := h10.1 hc11
      refine wpl_sl (n := 2) (pc' := 106) (ls' := [some (.ref 0), some (.ref 1), some (.long x2), none, some (.long x4), none, some (.long x6), none, some (.long x8), none, some (.int x10), some (.int x11), some (.int x12), some (.int ((sg (ix x12)) &&& (7 : Int32))), some (.int ((sg (ix (x12 + (1 : Int32)))) &&& (3 : Int32))), some (.int (sg (ix (x12 + (2 : Int32))))), some (.int (sg (ix (x12 + (3 : Int32))))), some (.int (((sg (ix (x12 + (2 : Int32)))) &&& (2147483647 : Int32)) % (x11 + (1 : Int32)))), some (.int (-1 : Int32)), some (.long (0 : Int64)), none, none, none, none, none, none, none]) (st' := [.int (7 : Int32), .int ((sg (ix x12)) &&& (7 : Int32))]) rfl ?_
      refine wpl_icmp (a := 360) (b := 109) rfl (by decide) rfl rfl (wpl_br (p := ((sg (ix x12)) &&& (7 : Int32)) = (7 : Int32)) ⟨fun hc14 => ?_, fun hc14 => ?_⟩)
      · have h15 := h12.1 hc14
        exact wpl_lle (ls := [some (.ref 0), some (.ref 1), some (.long x2), none, some (.long x4), none, some (.long x6), none, some (.long x8), none, some (.int x10), some (.int x11), some (.int x12), some (.int ((sg (ix x12)) &&& (7 : Int32))), some (.int ((sg (ix (x12 + (1 : Int32)))) &&& (3 : Int32))), some (.int (sg (ix (x12 + (2 : Int32))))), some (.int (sg (ix (x12 + (3 : Int32))))), none, some (.int (-1 : Int32)), some (.long (0 : Int64)), none, none, none, none, none, none, none]) ⟨rfl, rfl, rfl, rfl, rfl, rfl, rfl, rfl, rfl, rfl, rfl, rfl, rfl, rfl, rfl, trivial⟩ h15
      · have h16 := h12.2 hc14
        refine wpl_sl (n := 2) (pc' := 363) (ls' := [some (.ref 0), some (.ref 1), some (.long x2), none, some (.long x4), none, some (.long x6), none, some (.long x8), none, some (.int x10), some (.int x11), some (.int x12), some (.int ((sg (ix x12)) &&& (7 : Int32))), some (.int ((sg (ix (x12 + (1 : Int32)))) &&& (3 : Int32))), some (.int (sg (ix (x12 + (2 : Int32))))), some (.int (sg (ix (x12 + (3 : Int32))))), some (.int (((sg (ix (x12 + (2 : Int32)))) &&& (2147483647 : Int32)) % (x11 + (1 : Int32)))), some (.int (-1 : Int32)), some (.long (0 : Int64)), none, none, none, none, none, none, none]) (st' := [.int (3 : Int32), .int ((sg (ix x12)) &&& (7 : Int32))]) rfl ?_
        refine wpl_icmp (a := 438) (b := 366) rfl (by decide) rfl rfl (wpl_br (p := ((sg (ix x12)) &&& (7 : Int32)) = (3 : Int32)) ⟨fun hc17 => ?_, fun hc17 => ?_⟩)
        · have h18 := h16.1 hc17
          refine wpl_sl (n := 2) (pc' := 369) (ls' := [some (.ref 0), some (.ref 1), some (.long x2), none, some (.long x4), none, some (.long x6), none, some (.long x8), none, some (.int x10), some (.int x11), some (.int x12), some (.int ((sg (ix x12)) &&& (7 : Int32))), some (.int ((sg (ix (x12 + (1 : Int32)))) &&& (3 : Int32))), some (.int (sg (ix (x12 + (2 : Int32))))), some (.int (sg (ix (x12 + (3 : Int32))))), some (.int (((sg (ix (x12 + (2 : Int32)))) &&& (2147483647 : Int32)) % (x11 + (1 : Int32)))), some (.int (-1 : Int32)), some (.long (0 : Int64)), none, none, none, none, none, none, none]) (st' := [.int (((sg (ix (x12 + (2 : Int32)))) &&& (2147483647 : Int32)) % (x11 + (1 : Int32))), .ref 1]) rfl ?_
          refine wpl_v1 (m' := 15) (me' := cm15) (as := [.int (((sg (ix (x12 + (2 : Int32)))) &&& (2147483647 : Int32)) % (x11 + (1 : Int32)))]) (r := []) rfl rfl rfl rfl rfl ⟨by decide, (by first | decide | exact Nat.le_of_ble_eq_true rfl), (by first | decide | exact Nat.le_of_ble_eq_true rfl), rfl⟩ (cal_I (calI.mono h18 fun v21 s20 h22 => ?_))
          refine wpl_sl (n := 4) (pc' := 379) (ls' := [some (.ref 0), some (.ref 1), some (.long x2), none, some (.long x4), none, some (.long x6), none, some (.long x8), none, some (.int x10), some (.int x11), some (.int x12), some (.int ((sg (ix x12)) &&& (7 : Int32))), some (.int ((sg (ix (x12 + (1 : Int32)))) &&& (3 : Int32))), some (.int (sg (ix (x12 + (2 : Int32))))), some (.int (sg (ix (x12 + (3 : Int32))))), some (.int (((sg (ix (x12 + (2 : Int32)))) &&& (2147483647 : Int32)) % (x11 + (1 : Int32)))), some (.int (-1 : Int32)), some (.long (0 : Int64)), none, some (.int v21), none, none, none, none, none]) (st' := [.int ((sg (ix (x12 + (1 : Int32)))) &&& (3 : Int32)), .int (((sg (ix (x12 + (2 : Int32)))) &&& (2147483647 : Int32)) % (x11 + (1 : Int32))), .ref 1]) rfl ?_
          refine wpl_v1 (m' := 5) (me' := cm5) (as := [.int (((sg (ix (x12 + (2 : Int32)))) &&& (2147483647 : Int32)) % (x11 + (1 : Int32))), .int ((sg (ix (x12 + (1 : Int32)))) &&& (3 : Int32))]) (r := []) rfl rfl rfl rfl rfl ⟨by decide, (by first | decide | exact Nat.le_of_ble_eq_true rfl), (by first | decide | exact Nat.le_of_ble_eq_true rfl), rfl⟩ (cal_I (calI.mono h22 fun v24 s23 h25 => ?_))
          refine wpl_sl (n := 4) (pc' := 390) (ls' := [some (.ref 0), some (.ref 1), some (.long x2), none, some (.long x4), none, some (.long x6), none, some (.long x8), none, some (.int x10), some (.int x11), some (.int x12), some (.int ((sg (ix x12)) &&& (7 : Int32))), some (.int ((sg (ix (x12 + (1 : Int32)))) &&& (3 : Int32))), some (.int (sg (ix (x12 + (2 : Int32))))), some (.int (sg (ix (x12 + (3 : Int32))))), some (.int (((sg (ix (x12 + (2 : Int32)))) &&& (2147483647 : Int32)) % (x11 + (1 : Int32)))), some (.int (-1 : Int32)), some (.long (0 : Int64)), none, some (.int v21), some (.int v24), none, none, none, none]) (st' := [.int x11, .int (((sg (ix (x12 + (2 : Int32)))) &&& (2147483647 : Int32)) % (x11 + (1 : Int32))), .int v24]) rfl ?_
          have hm27 : ∀ m26, m26 = (if (((sg (ix (x12 + (2 : Int32)))) &&& (2147483647 : Int32)) % (x11 + (1 : Int32))) < x11 then (1 : Int32) else (0 : Int32)) → wplI PP QQ (some (N, sg)) 0 lm0 398 [some (.ref 0), some (.ref 1), some (.long x2), none, some (.long x4), none, some (.long x6), none, some (.long x8), none, some (.int x10), some (.int x11), some (.int x12), some (.int ((sg (ix x12)) &&& (7 : Int32))), some (.int ((sg (ix (x12 + (1 : Int32)))) &&& (3 : Int32))), some (.int (sg (ix (x12 + (2 : Int32))))), some (.int (sg (ix (x12 + (3 : Int32))))), some (.int (((sg (ix (x12 + (2 : Int32)))) &&& (2147483647 : Int32)) % (x11 + (1 : Int32)))), some (.int (-1 : Int32)), some (.long (0 : Int64)), none, some (.int v21), some (.int v24), none, none, none, none] [.int m26, .int v24] (W1 s23) Q := by
            intro m26 em26
            have h28 := h25 m26 em26
            refine wpl_icmp (a := 403) (b := 401) rfl (by decide) rfl rfl (wpl_br (p := v24 = m26) ⟨fun hc29 => ?_, fun hc29 => ?_⟩)
            · have h30 := h28.1 hc29
              refine wpl_sl (n := 1) (pc' := 405) (ls' := [some (.ref 0), some (.ref 1), some (.long x2), none, some (.long x4), none, some (.long x6), none, some (.long x8), none, some (.int x10), some (.int x11), some (.int x12), some (.int ((sg (ix x12)) &&& (7 : Int32))), some (.int ((sg (ix (x12 + (1 : Int32)))) &&& (3 : Int32))), some (.int (sg (ix (x12 + (2 : Int32))))), some (.int (sg (ix (x12 + (3 : Int32))))), some (.int (((sg (ix (x12 + (2 : Int32)))) &&& (2147483647 : Int32)) % (x11 + (1 : Int32)))), some (.int (-1 : Int32)), some (.long (0 : Int64)), none, some (.int v21), some (.int v24), none, none, none, none]) (st' := [.int v24]) rfl ?_
              refine wpl_if (a := 435) (b := 408) rfl (by decide) rfl rfl (wpl_br (p := v24 = (0 : Int32)) ⟨fun hc32 => ?_, fun hc32 => ?_⟩)
              · have h33 := h30.1 hc32
                exact wpl_lle (ls := [some (.ref 0), some (.ref 1), some (.long x2), none, some (.long x4), none, some (.long x6), none, some (.long x8), none, some (.int x10), some (.int x11), some (.int x12), none, none, none, none, none, some (.int (-1 : Int32)), some (.long (0 : Int64)), none, none, none, none, none, none, none]) ⟨rfl, rfl, rfl, rfl, rfl, rfl, rfl, rfl, rfl, rfl, rfl, trivial⟩ h33
              · have h34 := h30.2 hc32
                refine wpl_sl (n := 1) (pc' := 410) (ls' := [some (.ref 0), some (.ref 1), some (.long x2), none, some (.long x4), none, some (.long x6), none, some (.long x8), none, some (.int x10), some (.int x11), some (.int x12), some (.int ((sg (ix x12)) &&& (7 : Int32))), some (.int ((sg (ix (x12 + (1 : Int32)))) &&& (3 : Int32))), some (.int (sg (ix (x12 + (2 : Int32))))), some (.int (sg (ix (x12 + (3 : Int32))))), some (.int (((sg (ix (x12 + (2 : Int32)))) &&& (2147483647 : Int32)) % (x11 + (1 : Int32)))), some (.int (-1 : Int32)), some (.long (0 : Int64)), none, some (.int v21), some (.int v24), none, none, none, none]) (st' := [.int v21]) rfl ?_
                refine wpl_if (a := 420) (b := 413) rfl (by decide) rfl rfl (wpl_br (p := v21 < (0 : Int32)) ⟨fun hc35 => ?_, fun hc35 => ?_⟩)
                · have h36 := h34.1 hc35
                  refine wpl_sl (n := 1) (pc' := 421) (ls' := [some (.ref 0), some (.ref 1), some (.long x2), none, some (.long x4), none, some (.long x6), none, some (.long x8), none, some (.int x10), some (.int x11), some (.int x12), some (.int ((sg (ix x12)) &&& (7 : Int32))), some (.int ((sg (ix (x12 + (1 : Int32)))) &&& (3 : Int32))), some (.int (sg (ix (x12 + (2 : Int32))))), some (.int (sg (ix (x12 + (3 : Int32))))), some (.int (((sg (ix (x12 + (2 : Int32)))) &&& (2147483647 : Int32)) % (x11 + (1 : Int32)))), some (.int (-1 : Int32)), some (.long (0 : Int64)), none, some (.int v21), some (.int v24), none, none, none, none]) (st' := [.int (0 : Int32)]) rfl ?_
                  exact wpl_ret rfl rfl rfl ⟨(0 : Int32), rfl, h36⟩
                · have h37 := h34.2 hc35
                  refine wpl_sl (n := 2) (pc' := 417) (ls' := [some (.ref 0), some (.ref 1), some (.long x2), none, some (.long x4), none, some (.long x6), none, some (.long x8), none, some (.int x10), some (.int x11), some (.int x12), some (.int ((sg (ix x12)) &&& (7 : Int32))), some (.int ((sg (ix (x12 + (1 : Int32)))) &&& (3 : Int32))), some (.int (sg (ix (x12 + (2 : Int32))))), some (.int (sg (ix (x12 + (3 : Int32))))), some (.int (((sg (ix (x12 + (2 : Int32)))) &&& (2147483647 : Int32)) % (x11 + (1 : Int32)))), some (.int (-1 : Int32)), some (.long (0 : Int64)), none, some (.int v21), some (.int v24), none, none, none, none]) (st' := [.int x10, .int v21]) rfl ?_
                  refine wpl_icmp (a := 422) (b := 420) rfl (by decide) rfl rfl (wpl_br (p := v21 < x10) ⟨fun hc38 => ?_, fun hc38 => ?_⟩)
                  · have h39 := h37.1 hc38
                    refine wpl_sl (n := 7) (pc' := 435) (ls' := [some (.ref 0), some (.ref 1), some (.long x2), none, some (.long x4), none, some (.long x6), none, some (.long x8), none, some (.int x10), some (.int (x11 + (-1 : Int32))), some (.int x12), some (.int ((sg (ix x12)) &&& (7 : Int32))), some (.int ((sg (ix (x12 + (1 : Int32)))) &&& (3 : Int32))), some (.int (sg (ix (x12 + (2 : Int32))))), some (.int (sg (ix (x12 + (3 : Int32))))), some (.int (((sg (ix (x12 + (2 : Int32)))) &&& (2147483647 : Int32)) % (x11 + (1 : Int32)))), some (.int ((sg (ix (x12 + (1 : Int32)))) &&& (3 : Int32))), some (.long ((1 : Int64) <<< ((v21).toInt64 &&& 63))), none, some (.int v21), some (.int v24), none, none, none, none]) (st' := []) rfl ?_
                    exact wpl_lle (ls := [some (.ref 0), some (.ref 1), some (.long x2), none, some (.long x4), none, some (.long x6), none, some (.long x8), none, some (.int x10), some (.int (x11 + (-1 : Int32))), some (.int x12), none, none, none, none, none, some (.int ((sg (ix (x12 + (1 : Int32)))) &&& (3 : Int32))), some (.long ((1 : Int64) <<< ((v21).toInt64 &&& 63))), none, none, none, none, none, none, none]) ⟨rfl, rfl, rfl, rfl, rfl, rfl, rfl, rfl, rfl, rfl, rfl, trivial⟩ h39
                  · have h40 := h37.2 hc38
                    refine wpl_sl (n := 1) (pc' := 421) (ls' := [some (.ref 0), some (.ref 1), some (.long x2), none, some (.long x4), none, some (.long x6), none, some (.long x8), none, some (.int x10), some (.int x11), some (.int x12), some (.int ((sg (ix x12)) &&& (7 : Int32))), some (.int ((sg (ix (x12 + (1 : Int32)))) &&& (3 : Int32))), some (.int (sg (ix (x12 + (2 : Int32))))), some (.int (sg (ix (x12 + (3 : Int32))))), some (.int (((sg (ix (x12 + (2 : Int32)))) &&& (2147483647 : Int32)) % (x11 + (1 : Int32)))), some (.int (-1 : Int32)), some (.long (0 : Int64)), none, some (.int v21), some (.int v24), none, none, none, none]) (st' := [.int (0 : Int32)]) rfl ?_
                    exact wpl_ret rfl rfl rfl ⟨(0 : Int32), rfl, h40⟩
            · have h31 := h28.2 hc29
              refine wpl_sl (n := 1) (pc' := 402) (ls' := [some (.ref 0), some (.ref 1), some (.long x2), none, some (.long x4), none, some (.long x6), none, some (.long x8), none, some (.int x10), some (.int x11), some (.int x12), some (.int ((sg (ix x12)) &&& (7 : Int32))), some (.int ((sg (ix (x12 + (1 : Int32)))) &&& (3 : Int32))), some (.int (sg (ix (x12 + (2 : Int32))))), some (.int (sg (ix (x12 + (3 : Int32))))), some (.int (((sg (ix (x12 + (2 : Int32)))) &&& (2147483647 : Int32)) % (x11 + (1 : Int32)))), some (.int (-1 : Int32)), some (.long (0 : Int64)), none, some (.int v21), some (.int v24), none, none, none, none]) (st' := [.int (0 : Int32)]) rfl ?_
              exact wpl_ret rfl rfl rfl ⟨(0 : Int32), rfl, h31⟩
          refine wpl_icmp (a := 397) (b := 393) rfl (by decide) rfl rfl (wpl_br (p := (((sg (ix (x12 + (2 : Int32)))) &&& (2147483647 : Int32)) % (x11 + (1 : Int32))) < x11) ⟨fun hc41 => ?_, fun hc41 => ?_⟩)
          · refine wpl_sl (n := 2) (pc' := 398) (ls' := [some (.ref 0), some (.ref 1), some (.long x2), none, some (.long x4), none, some (.long x6), none, some (.long x8), none, some (.int x10), some (.int x11), some (.int x12), some (.int ((sg (ix x12)) &&& (7 : Int32))), some (.int ((sg (ix (x12 + (1 : Int32)))) &&& (3 : Int32))), some (.int (sg (ix (x12 + (2 : Int32))))), some (.int (sg (ix (x12 + (3 : Int32))))), some (.int (((sg (ix (x12 + (2 : Int32)))) &&& (2147483647 : Int32)) % (x11 + (1 : Int32)))), some (.int (-1 : Int32)), some (.long (0 : Int64)), none, some (.int v21), some (.int v24), none, none, none, none]) (st' := [.int (1 : Int32), .int v24]) rfl ?_
            first | exact hm27 _ (by simp only [if_pos hc41]) | exact wpl_lle (by repeat (first | exact trivial | refine ⟨rfl, ?_⟩)) (hm27 _ (by simp only [if_pos hc41]))
          · refine wpl_sl (n := 1) (pc' := 398) (ls' := [some (.ref 0), some (.ref 1), some (.long x2), none, some (.long x4), none, some (.long x6), none, some (.long x8), none, some (.int x10), some (.int x11), some (.int x12), some (.int ((sg (ix x12)) &&& (7 : Int32))), some (.int ((sg (ix (x12 + (1 : Int32)))) &&& (3 : Int32))), some (.int (sg (ix (x12 + (2 : Int32))))), some (.int (sg (ix (x12 + (3 : Int32))))), some (.int (((sg (ix (x12 + (2 : Int32)))) &&& (2147483647 : Int32)) % (x11 + (1 : Int32)))), some (.int (-1 : Int32)), some (.long (0 : Int64)), none, some (.int v21), some (.int v24), none, none, none, none]) (st' := [.int (0 : Int32), .int v24]) rfl ?_
            first | exact hm27 _ (by simp only [if_neg hc41]) | exact wpl_lle (by repeat (first | exact trivial | refine ⟨rfl, ?_⟩)) (hm27 _ (by simp only [if_neg hc41]))
        · have h19 := h16.2 hc17
          refine wpl_sl (n := 2) (pc' := 441) (ls' := [some (.ref 0), some (.ref 1), some (.long x2), none, some (.long x4), none, some (.long x6), none, some (.long x8), none, some (.int x10), some (.int x11), some (.int x12), some (.int ((sg (ix x12)) &&& (7 : Int32))), some (.int ((sg (ix (x12 + (1 : Int32)))) &&& (3 : Int32))), some (.int (sg (ix (x12 + (2 : Int32))))), some (.int (sg (ix (x12 + (3 : Int32))))), some (.int (((sg (ix (x12 + (2 : Int32)))) &&& (2147483647 : Int32)) % (x11 + (1 : Int32)))), some (.int (-1 : Int32)), some (.long (0 : Int64)), none, none, none, none, none, none, none]) (st' := [.int (4 : Int32), .int ((sg (ix x12)) &&& (7 : Int32))]) rfl ?_
          refine wpl_icmp (a := 489) (b := 444) rfl (by decide) rfl rfl (wpl_br (p := ((sg (ix x12)) &&& (7 : Int32)) = (4 : Int32)) ⟨fun hc42 => ?_, fun hc42 => ?_⟩)
          · have h43 := h19.1 hc42
            refine wpl_sl (n := 2) (pc' := 447) (ls' := [some (.ref 0), some (.ref 1), some (.long x2), none, some (.long x4), none, some (.long x6), none, some (.long x8), none, some (.int x10), some (.int x11), some (.int x12), some (.int ((sg (ix x12)) &&& (7 : Int32))), some (.int ((sg (ix (x12 + (1 : Int32)))) &&& (3 : Int32))), some (.int (sg (ix (x12 + (2 : Int32))))), some (.int (sg (ix (x12 + (3 : Int32))))), some (.int (((sg (ix (x12 + (2 : Int32)))) &&& (2147483647 : Int32)) % (x11 + (1 : Int32)))), some (.int (-1 : Int32)), some (.long (0 : Int64)), none, none, none, none, none, none, none]) (st' := [.int (((sg (ix (x12 + (2 : Int32)))) &&& (2147483647 : Int32)) % (x11 + (1 : Int32))), .ref 1]) rfl ?_
            refine wpl_v1 (m' := 6) (me' := cm6) (as := [.int (((sg (ix (x12 + (2 : Int32)))) &&& (2147483647 : Int32)) % (x11 + (1 : Int32)))]) (r := []) rfl rfl rfl rfl rfl ⟨by decide, (by first | decide | exact Nat.le_of_ble_eq_true rfl), (by first | decide | exact Nat.le_of_ble_eq_true rfl), rfl⟩ (cal_I (calI.mono h43 fun v46 s45 h47 => ?_))
            refine wpl_sl (n := 4) (pc' := 458) (ls' := [some (.ref 0), some (.ref 1), some (.long x2), none, some (.long x4), none, some (.long x6), none, some (.long x8), none, some (.int x10), some (.int x11), some (.int x12), some (.int ((sg (ix x12)) &&& (7 : Int32))), some (.int ((sg (ix (x12 + (1 : Int32)))) &&& (3 : Int32))), some (.int (sg (ix (x12 + (2 : Int32))))), some (.int (sg (ix (x12 + (3 : Int32))))), some (.int (((sg (ix (x12 + (2 : Int32)))) &&& (2147483647 : Int32)) % (x11 + (1 : Int32)))), some (.int (-1 : Int32)), some (.long (0 : Int64)), none, some (.int v46), none, none, none, none, none]) (st' := [.int x11, .int (((sg (ix (x12 + (2 : Int32)))) &&& (2147483647 : Int32)) % (x11 + (1 : Int32))), .int v46]) rfl ?_
            have hm49 : ∀ m48, m48 = (if (((sg (ix (x12 + (2 : Int32)))) &&& (2147483647 : Int32)) % (x11 + (1 : Int32))) < x11 then (if x11 < (32 : Int32) then (1 : Int32) else (0 : Int32)) else (0 : Int32)) → wplI PP QQ (some (N, sg)) 0 lm0 473 [some (.ref 0), some (.ref 1), some (.long x2), none, some (.long x4), none, some (.long x6), none, some (.long x8), none, some (.int x10), some (.int x11), some (.int x12), some (.int ((sg (ix x12)) &&& (7 : Int32))), some (.int ((sg (ix (x12 + (1 : Int32)))) &&& (3 : Int32))), some (.int (sg (ix (x12 + (2 : Int32))))), some (.int (sg (ix (x12 + (3 : Int32))))), some (.int (((sg (ix (x12 + (2 : Int32)))) &&& (2147483647 : Int32)) % (x11 + (1 : Int32)))), some (.int (-1 : Int32)), some (.long (0 : Int64)), none, some (.int v46), none, none, none, none, none] [.int m48, .int v46] (W1 s45) Q := by
              intro m48 em48
              have h50 := h47 m48 em48
              refine wpl_icmp (a := 478) (b := 476) rfl (by decide) rfl rfl (wpl_br (p := v46 = m48) ⟨fun hc51 => ?_, fun hc51 => ?_⟩)
              · have h52 := h50.1 hc51
                refine wpl_sl (n := 1) (pc' := 480) (ls' := [some (.ref 0), some (.ref 1), some (.long x2), none, some (.long x4), none, some (.long x6), none, some (.long x8), none, some (.int x10), some (.int x11), some (.int x12), some (.int ((sg (ix x12)) &&& (7 : Int32))), some (.int ((sg (ix (x12 + (1 : Int32)))) &&& (3 : Int32))), some (.int (sg (ix (x12 + (2 : Int32))))), some (.int (sg (ix (x12 + (3 : Int32))))), some (.int (((sg (ix (x12 + (2 : Int32)))) &&& (2147483647 : Int32)) % (x11 + (1 : Int32)))), some (.int (-1 : Int32)), some (.long (0 : Int64)), none, some (.int v46), none, none, none, none, none]) (st' := [.int v46]) rfl ?_
                have hm55 : ∀ m54, m54 = (if v46 = (0 : Int32) then x11 else (x11 + (1 : Int32))) → wplI PP QQ (some (N, sg)) 0 lm0 486 [some (.ref 0), some (.ref 1), some (.long x2), none, some (.long x4), none, some (.long x6), none, some (.long x8), none, some (.int x10), some (.int m54), some (.int x12), some (.int ((sg (ix x12)) &&& (7 : Int32))), some (.int ((sg (ix (x12 + (1 : Int32)))) &&& (3 : Int32))), some (.int (sg (ix (x12 + (2 : Int32))))), some (.int (sg (ix (x12 + (3 : Int32))))), some (.int (((sg (ix (x12 + (2 : Int32)))) &&& (2147483647 : Int32)) % (x11 + (1 : Int32)))), some (.int (-1 : Int32)), some (.long (0 : Int64)), none, some (.int v46), none, none, none, none, none] [] (W1 s45) Q := by
                  intro m54 em54
                  have h56 := h52 m54 em54
                  refine wpl_sl (n := 1) (pc' := 619) (ls' := [some (.ref 0), some (.ref 1), some (.long x2), none, some (.long x4), none, some (.long x6), none, some (.long x8), none, some (.int x10), some (.int m54), some (.int x12), some (.int ((sg (ix x12)) &&& (7 : Int32))), some (.int ((sg (ix (x12 + (1 : Int32)))) &&& (3 : Int32))), some (.int (sg (ix (x12 + (2 : Int32))))), some (.int (sg (ix (x12 + (3 : Int32))))), some (.int (((sg (ix (x12 + (2 : Int32)))) &&& (2147483647 : Int32)) % (x11 + (1 : Int32)))), some (.int (-1 : Int32)), some (.long (0 : Int64)), none, some (.int v46), none, none, none, none, none]) (st' := []) rfl ?_
                  exact wpl_lle (ls := [some (.ref 0), some (.ref 1), some (.long x2), none, some (.long x4), none, some (.long x6), none, some (.long x8), none, some (.int x10), some (.int m54), some (.int x12), none, none, none, none, none, some (.int (-1 : Int32)), some (.long (0 : Int64)), none, none, none, none, none, none, none]) ⟨rfl, rfl, rfl, rfl, rfl, rfl, rfl, rfl, rfl, rfl, rfl, trivial⟩ h56
                refine wpl_if (a := 486) (b := 483) rfl (by decide) rfl rfl (wpl_br (p := v46 = (0 : Int32)) ⟨fun hc57 => ?_, fun hc57 => ?_⟩)
                · first | exact hm55 _ (by simp only [if_pos hc57]) | exact wpl_lle (by repeat (first | exact trivial | refine ⟨rfl, ?_⟩)) (hm55 _ (by simp only [if_pos hc57]))
                · refine wpl_sl (n := 1) (pc' := 486) (ls' := [some (.ref 0), some (.ref 1), some (.long x2), none, some (.long x4), none, some (.long x6), none, some (.long x8), none, some (.int x10), some (.int (x11 + (1 : Int32))), some (.int x12), some (.int ((sg (ix x12)) &&& (7 : Int32))), some (.int ((sg (ix (x12 + (1 : Int32)))) &&& (3 : Int32))), some (.int (sg (ix (x12 + (2 : Int32))))), some (.int (sg (ix (x12 + (3 : Int32))))), some (.int (((sg (ix (x12 + (2 : Int32)))) &&& (2147483647 : Int32)) % (x11 + (1 : Int32)))), some (.int (-1 : Int32)), some (.long (0 : Int64)), none, some (.int v46), none, none, none, none, none]) (st' := []) rfl ?_
                  first | exact hm55 _ (by simp only [if_neg hc57]) | exact wpl_lle (by repeat (first | exact trivial | refine ⟨rfl, ?_⟩)) (hm55 _ (by simp only [if_neg hc57]))
              · have h53 := h50.2 hc51
                refine wpl_sl (n := 1) (pc' := 477) (ls' := [some (.ref 0), some (.ref 1), some (.long x2), none, some (.long x4), none, some (.long x6), none, some (.long x8), none, some (.int x10), some (.int x11), some (.int x12), some (.int ((sg (ix x12)) &&& (7 : Int32))), some (.int ((sg (ix (x12 + (1 : Int32)))) &&& (3 : Int32))), some (.int (sg (ix (x12 + (2 : Int32))))), some (.int (sg (ix (x12 + (3 : Int32))))), some (.int (((sg (ix (x12 + (2 : Int32)))) &&& (2147483647 : Int32)) % (x11 + (1 : Int32)))), some (.int (-1 : Int32)), some (.long (0 : Int64)), none, some (.int v46), none, none, none, none, none]) (st' := [.int (0 : Int32)]) rfl ?_
                exact wpl_ret rfl rfl rfl ⟨(0 : Int32), rfl, h53⟩
            refine wpl_icmp (a := 472) (b := 461) rfl (by decide) rfl rfl (wpl_br (p := (((sg (ix (x12 + (2 : Int32)))) &&& (2147483647 : Int32)) % (x11 + (1 : Int32))) < x11) ⟨fun hc58 => ?_, fun hc58 => ?_⟩)
            · refine wpl_sl (n := 2) (pc' := 465) (ls' := [some (.ref 0), some (.ref 1), some (.long x2), none, some (.long x4), none, some (.long x6), none, some (.long x8), none, some (.int x10), some (.int x11), some (.int x12), some (.int ((sg (ix x12)) &&& (7 : Int32))), some (.int ((sg (ix (x12 + (1 : Int32)))) &&& (3 : Int32))), some (.int (sg (ix (x12 + (2 : Int32))))), some (.int (sg (ix (x12 + (3 : Int32))))), some (.int (((sg (ix (x12 + (2 : Int32)))) &&& (2147483647 : Int32)) % (x11 + (1 : Int32)))), some (.int (-1 : Int32)), some (.long (0 : Int64)), none, some (.int v46), none, none, none, none, none]) (st' := [.int (32 : Int32), .int x11, .int v46]) rfl ?_
              refine wpl_icmp (a := 472) (b := 468) rfl (by decide) rfl rfl (wpl_br (p := x11 < (32 : Int32)) ⟨fun hc59 => ?_, fun hc59 => ?_⟩)
              · refine wpl_sl (n := 2) (pc' := 473) (ls' := [some (.ref 0), some (.ref 1), some (.long x2), none, some (.long x4), none, some (.long x6), none, some (.long x8), none, some (.int x10), some (.int x11), some (.int x12), some (.int ((sg (ix x12)) &&& (7 : Int32))), some (.int ((sg (ix (x12 + (1 : Int32)))) &&& (3 : Int32))), some (.int (sg (ix (x12 + (2 : Int32))))), some (.int (sg (ix (x12 + (3 : Int32))))), some (.int (((sg (ix (x12 + (2 : Int32)))) &&& (2147483647 : Int32)) % (x11 + (1 : Int32)))), some (.int (-1 : Int32)), some (.long (0 : Int64)), none, some (.int v46), none, none, none, none, none]) (st' := [.int (1 : Int32), .int v46]) rfl ?_
                first | exact hm49 _ (by simp only [if_pos hc58, if_pos hc59]) | exact wpl_lle (by repeat (first | exact trivial | refine ⟨rfl, ?_⟩)) (hm49 _ (by simp only [if_pos hc58, if_pos hc59]))
              · refine wpl_sl (n := 1) (pc' := 473) (ls' := [some (.ref 0), some (.ref 1), some (.long x2), none, some (.long x4), none, some (.long x6), none, some (.long x8), none, some (.int x10), some (.int x11), some (.int x12), some (.int ((sg (ix x12)) &&& (7 : Int32))), some (.int ((sg (ix (x12 + (1 : Int32)))) &&& (3 : Int32))), some (.int (sg (ix (x12 + (2 : Int32))))), some (.int (sg (ix (x12 + (3 : Int32))))), some (.int (((sg (ix (x12 + (2 : Int32)))) &&& (2147483647 : Int32)) % (x11 + (1 : Int32)))), some (.int (-1 : Int32)), some (.long (0 : Int64)), none, some (.int v46), none, none, none, none, none]) (st' := [.int (0 : Int32), .int v46]) rfl ?_
                first | exact hm49 _ (by simp only [if_pos hc58, if_neg hc59]) | exact wpl_lle (by repeat (first | exact trivial | refine ⟨rfl, ?_⟩)) (hm49 _ (by simp only [if_pos hc58, if_neg hc59]))
            · refine wpl_sl (n := 1) (pc' := 473) (ls' := [some (.ref 0), some (.ref 1), some (.long x2), none, some (.long x4), none, some (.long x6), none, some (.long x8), none, some (.int x10), some (.int x11), some (.int x12), some (.int ((sg (ix x12)) &&& (7 : Int32))), some (.int ((sg (ix (x12 + (1 : Int32)))) &&& (3 : Int32))), some (.int (sg (ix (x12 + (2 : Int32))))), some (.int (sg (ix (x12 + (3 : Int32))))), some (.int (((sg (ix (x12 + (2 : Int32)))) &&& (2147483647 : Int32)) % (x11 + (1 : Int32)))), some (.int (-1 : Int32)), some (.long (0 : Int64)), none, some (.int v46), none, none, none, none, none]) (st' := [.int (0 : Int32), .int v46]) rfl ?_
              first | exact hm49 _ (by simp only [if_neg hc58]) | exact wpl_lle (by repeat (first | exact trivial | refine ⟨rfl, ?_⟩)) (hm49 _ (by simp only [if_neg hc58]))
          · have h44 := h19.2 hc42
            refine wpl_sl (n := 2) (pc' := 492) (ls' := [some (.ref 0), some (.ref 1), some (.long x2), none, some (.long x4), none, some (.long x6), none, some (.long x8), none, some (.int x10), some (.int x11), some (.int x12), some (.int ((sg (ix x12)) &&& (7 : Int32))), some (.int ((sg (ix (x12 + (1 : Int32)))) &&& (3 : Int32))), some (.int (sg (ix (x12 + (2 : Int32))))), some (.int (sg (ix (x12 + (3 : Int32))))), some (.int (((sg (ix (x12 + (2 : Int32)))) &&& (2147483647 : Int32)) % (x11 + (1 : Int32)))), some (.int (-1 : Int32)), some (.long (0 : Int64)), none, none, none, none, none, none, none]) (st' := [.int (5 : Int32), .int ((sg (ix x12)) &&& (7 : Int32))]) rfl ?_
            refine wpl_icmp (a := 533) (b := 495) rfl (by decide) rfl rfl (wpl_br (p := ((sg (ix x12)) &&& (7 : Int32)) = (5 : Int32)) ⟨fun hc60 => ?_, fun hc60 => ?_⟩)
            · have h61 := h44.1 hc60
              refine wpl_sl (n := 2) (pc' := 498) (ls' := [some (.ref 0), some (.ref 1), some (.long x2), none, some (.long x4), none, some (.long x6), none, some (.long x8), none, some (.int x10), some (.int x11), some (.int x12), some (.int ((sg (ix x12)) &&& (7 : Int32))), some (.int ((sg (ix (x12 + (1 : Int32)))) &&& (3 : Int32))), some (.int (sg (ix (x12 + (2 : Int32))))), some (.int (sg (ix (x12 + (3 : Int32))))), some (.int (((sg (ix (x12 + (2 : Int32)))) &&& (2147483647 : Int32)) % (x11 + (1 : Int32)))), some (.int (-1 : Int32)), some (.long (0 : Int64)), none, none, none, none, none, none, none]) (st' := [.int (((sg (ix (x12 + (2 : Int32)))) &&& (2147483647 : Int32)) % (x11 + (1 : Int32))), .ref 1]) rfl ?_
              refine wpl_v1 (m' := 7) (me' := cm7) (as := [.int (((sg (ix (x12 + (2 : Int32)))) &&& (2147483647 : Int32)) % (x11 + (1 : Int32)))]) (r := []) rfl rfl rfl rfl rfl ⟨by decide, (by first | decide | exact Nat.le_of_ble_eq_true rfl), (by first | decide | exact Nat.le_of_ble_eq_true rfl), rfl⟩ (cal_I (calI.mono h61 fun v64 s63 h65 => ?_))
              refine wpl_sl (n := 4) (pc' := 509) (ls' := [some (.ref 0), some (.ref 1), some (.long x2), none, some (.long x4), none, some (.long x6), none, some (.long x8), none, some (.int x10), some (.int x11), some (.int x12), some (.int ((sg (ix x12)) &&& (7 : Int32))), some (.int ((sg (ix (x12 + (1 : Int32)))) &&& (3 : Int32))), some (.int (sg (ix (x12 + (2 : Int32))))), some (.int (sg (ix (x12 + (3 : Int32))))), some (.int (((sg (ix (x12 + (2 : Int32)))) &&& (2147483647 : Int32)) % (x11 + (1 : Int32)))), some (.int (-1 : Int32)), some (.long (0 : Int64)), none, some (.int v64), none, none, none, none, none]) (st' := [.int x11, .int (((sg (ix (x12 + (2 : Int32)))) &&& (2147483647 : Int32)) % (x11 + (1 : Int32))), .int v64]) rfl ?_
              have hm67 : ∀ m66, m66 = (if (((sg (ix (x12 + (2 : Int32)))) &&& (2147483647 : Int32)) % (x11 + (1 : Int32))) < x11 then (1 : Int32) else (0 : Int32)) → wplI PP QQ (some (N, sg)) 0 lm0 517 [some (.ref 0), some (.ref 1), some (.long x2), none, some (.long x4), none, some (.long x6), none, some (.long x8), none, some (.int x10), some (.int x11), some (.int x12), some (.int ((sg (ix x12)) &&& (7 : Int32))), some (.int ((sg (ix (x12 + (1 : Int32)))) &&& (3 : Int32))), some (.int (sg (ix (x12 + (2 : Int32))))), some (.int (sg (ix (x12 + (3 : Int32))))), some (.int (((sg (ix (x12 + (2 : Int32)))) &&& (2147483647 : Int32)) % (x11 + (1 : Int32)))), some (.int (-1 : Int32)), some (.long (0 : Int64)), none, some (.int v64), none, none, none, none, none] [.int m66, .int v64] (W1 s63) Q := by
                intro m66 em66
                have h68 := h65 m66 em66
                refine wpl_icmp (a := 522) (b := 520) rfl (by decide) rfl rfl (wpl_br (p := v64 = m66) ⟨fun hc69 => ?_, fun hc69 => ?_⟩)
                · have h70 := h68.1 hc69
                  refine wpl_sl (n := 1) (pc' := 524) (ls' := [some (.ref 0), some (.ref 1), some (.long x2), none, some (.long x4), none, some (.long x6), none, some (.long x8), none, some (.int x10), some (.int x11), some (.int x12), some (.int ((sg (ix x12)) &&& (7 : Int32))), some (.int ((sg (ix (x12 + (1 : Int32)))) &&& (3 : Int32))), some (.int (sg (ix (x12 + (2 : Int32))))), some (.int (sg (ix (x12 + (3 : Int32))))), some (.int (((sg (ix (x12 + (2 : Int32)))) &&& (2147483647 : Int32)) % (x11 + (1 : Int32)))), some (.int (-1 : Int32)), some (.long (0 : Int64)), none, some (.int v64), none, none, none, none, none]) (st' := [.int v64]) rfl ?_
                  have hm73 : ∀ m72, m72 = (if v64 = (0 : Int32) then x11 else (x11 + (-1 : Int32))) → wplI PP QQ (some (N, sg)) 0 lm0 530 [some (.ref 0), some (.ref 1), some (.long x2), none, some (.long x4), none, some (.long x6), none, some (.long x8), none, some (.int x10), some (.int m72), some (.int x12), some (.int ((sg (ix x12)) &&& (7 : Int32))), some (.int ((sg (ix (x12 + (1 : Int32)))) &&& (3 : Int32))), some (.int (sg (ix (x12 + (2 : Int32))))), some (.int (sg (ix (x12 + (3 : Int32))))), some (.int (((sg (ix (x12 + (2 : Int32)))) &&& (2147483647 : Int32)) % (x11 + (1 : Int32)))), some (.int (-1 : Int32)), some (.long (0 : Int64)), none, some (.int v64), none, none, none, none, none] [] (W1 s63) Q := by
                    intro m72 em72
                    have h74 := h70 m72 em72
                    refine wpl_sl (n := 1) (pc' := 619) (ls' := [some (.ref 0), some (.ref 1), some (.long x2), none, some (.long x4), none, some (.long x6), none, some (.long x8), none, some (.int x10), some (.int m72), some (.int x12), some (.int ((sg (ix x12)) &&& (7 : Int32))), some (.int ((sg (ix (x12 + (1 : Int32)))) &&& (3 : Int32))), some (.int (sg (ix (x12 + (2 : Int32))))), some (.int (sg (ix (x12 + (3 : Int32))))), some (.int (((sg (ix (x12 + (2 : Int32)))) &&& (2147483647 : Int32)) % (x11 + (1 : Int32)))), some (.int (-1 : Int32)), some (.long (0 : Int64)), none, some (.int v64), none, none, none, none, none]) (st' := []) rfl ?_
                    exact wpl_lle (ls := [some (.ref 0), some (.ref 1), some (.long x2), none, some (.long x4), none, some (.long x6), none, some (.long x8), none, some (.int x10), some (.int m72), some (.int x12), none, none, none, none, none, some (.int (-1 : Int32)), some (.long (0 : Int64)), none, none, none, none, none, none, none]) ⟨rfl, rfl, rfl, rfl, rfl, rfl, rfl, rfl, rfl, rfl, rfl, trivial⟩ h74
                  refine wpl_if (a := 530) (b := 527) rfl (by decide) rfl rfl (wpl_br (p := v64 = (0 : Int32)) ⟨fun hc75 => ?_, fun hc75 => ?_⟩)
                  · first | exact hm73 _ (by simp only [if_pos hc75]) | exact wpl_lle (by repeat (first | exact trivial | refine ⟨rfl, ?_⟩)) (hm73 _ (by simp only [if_pos hc75]))
                  · refine wpl_sl (n := 1) (pc' := 530) (ls' := [some (.ref 0), some (.ref 1), some (.long x2), none, some (.long x4), none, some (.long x6), none, some (.long x8), none, some (.int x10), some (.int (x11 + (-1 : Int32))), some (.int x12), some (.int ((sg (ix x12)) &&& (7 : Int32))), some (.int ((sg (ix (x12 + (1 : Int32)))) &&& (3 : Int32))), some (.int (sg (ix (x12 + (2 : Int32))))), some (.int (sg (ix (x12 + (3 : Int32))))), some (.int (((sg (ix (x12 + (2 : Int32)))) &&& (2147483647 : Int32)) % (x11 + (1 : Int32)))), some (.int (-1 : Int32)), some (.long (0 : Int64)), none, some (.int v64), none, none, none, none, none]) (st' := []) rfl ?_
                    first | exact hm73 _ (by simp only [if_neg hc75]) | exact wpl_lle (by repeat (first | exact trivial | refine ⟨rfl, ?_⟩)) (hm73 _ (by simp only [if_neg hc75]))
                · have h71 := h68.2 hc69
                  refine wpl_sl (n := 1) (pc' := 521) (ls' := [some (.ref 0), some (.ref 1), some (.long x2), none, some (.long x4), none, some (.long x6), none, some (.long x8), none, some (.int x10), some (.int x11), some (.int x12), some (.int ((sg (ix x12)) &&& (7 : Int32))), some (.int ((sg (ix (x12 + (1 : Int32)))) &&& (3 : Int32))), some (.int (sg (ix (x12 + (2 : Int32))))), some (.int (sg (ix (x12 + (3 : Int32))))), some (.int (((sg (ix (x12 + (2 : Int32)))) &&& (2147483647 : Int32)) % (x11 + (1 : Int32)))), some (.int (-1 : Int32)), some (.long (0 : Int64)), none, some (.int v64), none, none, none, none, none]) (st' := [.int (0 : Int32)]) rfl ?_
                  exact wpl_ret rfl rfl rfl ⟨(0 : Int32), rfl, h71⟩
              refine wpl_icmp (a := 516) (b := 512) rfl (by decide) rfl rfl (wpl_br (p := (((sg (ix (x12 + (2 : Int32)))) &&& (2147483647 : Int32)) % (x11 + (1 : Int32))) < x11) ⟨fun hc76 => ?_, fun hc76 => ?_⟩)
              · refine wpl_sl (n := 2) (pc' := 517) (ls' := [some (.ref 0), some (.ref 1), some (.long x2), none, some (.long x4), none, some (.long x6), none, some (.long x8), none, some (.int x10), some (.int x11), some (.int x12), some (.int ((sg (ix x12)) &&& (7 : Int32))), some (.int ((sg (ix (x12 + (1 : Int32)))) &&& (3 : Int32))), some (.int (sg (ix (x12 + (2 : Int32))))), some (.int (sg (ix (x12 + (3 : Int32))))), some (.int (((sg (ix (x12 + (2 : Int32)))) &&& (2147483647 : Int32)) % (x11 + (1 : Int32)))), some (.int (-1 : Int32)), some (.long (0 : Int64)), none, some (.int v64), none, none, none, none, none]) (st' := [.int (1 : Int32), .int v64]) rfl ?_
                first | exact hm67 _ (by simp only [if_pos hc76]) | exact wpl_lle (by repeat (first | exact trivial | refine ⟨rfl, ?_⟩)) (hm67 _ (by simp only [if_pos hc76]))
              · refine wpl_sl (n := 1) (pc' := 517) (ls' := [some (.ref 0), some (.ref 1), some (.long x2), none, some (.long x4), none, some (.long x6), none, some (.long x8), none, some (.int x10), some (.int x11), some (.int x12), some (.int ((sg (ix x12)) &&& (7 : Int32))), some (.int ((sg (ix (x12 + (1 : Int32)))) &&& (3 : Int32))), some (.int (sg (ix (x12 + (2 : Int32))))), some (.int (sg (ix (x12 + (3 : Int32))))), some (.int (((sg (ix (x12 + (2 : Int32)))) &&& (2147483647 : Int32)) % (x11 + (1 : Int32)))), some (.int (-1 : Int32)), some (.long (0 : Int64)), none, some (.int v64), none, none, none, none, none]) (st' := [.int (0 : Int32), .int v64]) rfl ?_
                first | exact hm67 _ (by simp only [if_neg hc76]) | exact wpl_lle (by repeat (first | exact trivial | refine ⟨rfl, ?_⟩)) (hm67 _ (by simp only [if_neg hc76]))
            · have h62 := h44.2 hc60
              refine wpl_sl (n := 5) (pc' := 541) (ls' := [some (.ref 0), some (.ref 1), some (.long x2), none, some (.long x4), none, some (.long x6), none, some (.long x8), none, some (.int x10), some (.int x11), some (.int x12), some (.int ((sg (ix x12)) &&& (7 : Int32))), some (.int ((sg (ix (x12 + (1 : Int32)))) &&& (3 : Int32))), some (.int (sg (ix (x12 + (2 : Int32))))), some (.int (sg (ix (x12 + (3 : Int32))))), some (.int (((sg (ix (x12 + (2 : Int32)))) &&& (2147483647 : Int32)) % (x11 + (1 : Int32)))), some (.int (-1 : Int32)), some (.long (0 : Int64)), none, some (.int ((sg (ix (x12 + (3 : Int32)))) &&& (3 : Int32))), none, none, none, none, none]) (st' := [.int ((sg (ix (x12 + (1 : Int32)))) &&& (3 : Int32))]) rfl ?_
              refine wpl_sl (n := 4) (pc' := 548) (ls' := [some (.ref 0), some (.ref 1), some (.long x2), none, some (.long x4), none, some (.long x6), none, some (.long x8), none, some (.int x10), some (.int x11), some (.int x12), some (.int ((sg (ix x12)) &&& (7 : Int32))), some (.int ((sg (ix (x12 + (1 : Int32)))) &&& (3 : Int32))), some (.int (sg (ix (x12 + (2 : Int32))))), some (.int (sg (ix (x12 + (3 : Int32))))), some (.int (((sg (ix (x12 + (2 : Int32)))) &&& (2147483647 : Int32)) % (x11 + (1 : Int32)))), some (.int (-1 : Int32)), some (.long (0 : Int64)), none, some (.int ((sg (ix (x12 + (3 : Int32)))) &&& (3 : Int32))), none, none, none, none, none]) (st' := [.long x8, .long x6, .long x4, .long x2, .int ((sg (ix (x12 + (1 : Int32)))) &&& (3 : Int32))]) rfl ?_
              refine wpl_stat (m' := 3) (me' := lm3) (as := [.int ((sg (ix (x12 + (1 : Int32)))) &&& (3 : Int32)), .long x2, .long x4, .long x6, .long x8]) (r := []) rfl rfl rfl rfl rfl ⟨(by first | decide | exact Nat.le_of_ble_eq_true rfl), (by first | decide | exact Nat.le_of_ble_eq_true rfl), (by first | decide | exact Nat.le_of_ble_eq_true rfl), (by first | decide | exact Nat.le_of_ble_eq_true rfl), rfl⟩ (lal_L (lalL.mono h62 fun v78 w77 hh => ?_))
              obtain ⟨s80, rfl, h79⟩ := hh
              refine wpl_sl (n := 6) (pc' := 562) (ls' := [some (.ref 0), some (.ref 1), some (.long x2), none, some (.long x4), none, some (.long x6), none, some (.long x8), none, some (.int x10), some (.int x11), some (.int x12), some (.int ((sg (ix x12)) &&& (7 : Int32))), some (.int ((sg (ix (x12 + (1 : Int32)))) &&& (3 : Int32))), some (.int (sg (ix (x12 + (2 : Int32))))), some (.int (sg (ix (x12 + (3 : Int32))))), some (.int (((sg (ix (x12 + (2 : Int32)))) &&& (2147483647 : Int32)) % (x11 + (1 : Int32)))), some (.int (-1 : Int32)), some (.long (0 : Int64)), none, some (.int ((sg (ix (x12 + (3 : Int32)))) &&& (3 : Int32))), some (.long v78), none, none, none, none]) (st' := [.long x8, .long x6, .long x4, .long x2, .int ((sg (ix (x12 + (3 : Int32)))) &&& (3 : Int32))]) rfl ?_
              refine wpl_stat (m' := 3) (me' := lm3) (as := [.int ((sg (ix (x12 + (3 : Int32)))) &&& (3 : Int32)), .long x2, .long x4, .long x6, .long x8]) (r := []) rfl rfl rfl rfl rfl ⟨(by first | decide | exact Nat.le_of_ble_eq_true rfl), (by first | decide | exact Nat.le_of_ble_eq_true rfl), (by first | decide | exact Nat.le_of_ble_eq_true rfl), (by first | decide | exact Nat.le_of_ble_eq_true rfl), rfl⟩ (lal_L (lalL.mono h79 fun v82 w81 hh => ?_))
              obtain ⟨s84, rfl, h83⟩ := hh
              refine wpl_sl (n := 4) (pc' := 572) (ls' := [some (.ref 0), some (.ref 1), some (.long x2), none, some (.long x4), none, some (.long x6), none, some (.long x8), none, some (.int x10), some (.int x11), some (.int x12), some (.int ((sg (ix x12)) &&& (7 : Int32))), some (.int ((sg (ix (x12 + (1 : Int32)))) &&& (3 : Int32))), some (.int (sg (ix (x12 + (2 : Int32))))), some (.int (sg (ix (x12 + (3 : Int32))))), some (.int (((sg (ix (x12 + (2 : Int32)))) &&& (2147483647 : Int32)) % (x11 + (1 : Int32)))), some (.int (-1 : Int32)), some (.long (0 : Int64)), none, some (.int ((sg (ix (x12 + (3 : Int32)))) &&& (3 : Int32))), some (.long v78), none, some (.long v82), none, none]) (st' := [.int ((sg (ix (x12 + (3 : Int32)))) &&& (3 : Int32)), .int ((sg (ix (x12 + (1 : Int32)))) &&& (3 : Int32)), .ref 1]) rfl ?_
              refine wpl_v1 (m' := 8) (me' := cm8) (as := [.int ((sg (ix (x12 + (1 : Int32)))) &&& (3 : Int32)), .int ((sg (ix (x12 + (3 : Int32)))) &&& (3 : Int32))]) (r := []) rfl rfl rfl rfl rfl ⟨by decide, (by first | decide | exact Nat.le_of_ble_eq_true rfl), (by first | decide | exact Nat.le_of_ble_eq_true rfl), rfl⟩ (cal_I (calI.mono h83 fun v86 s85 h87 => ?_))
              refine wpl_sl (n := 3) (pc' := 581) (ls' := [some (.ref 0), some (.ref 1), some (.long x2), none, some (.long x4), none, some (.long x6), none, some (.long x8), none, some (.int x10), some (.int x11), some (.int x12), some (.int ((sg (ix x12)) &&& (7 : Int32))), some (.int ((sg (ix (x12 + (1 : Int32)))) &&& (3 : Int32))), some (.int (sg (ix (x12 + (2 : Int32))))), some (.int (sg (ix (x12 + (3 : Int32))))), some (.int (((sg (ix (x12 + (2 : Int32)))) &&& (2147483647 : Int32)) % (x11 + (1 : Int32)))), some (.int (-1 : Int32)), some (.long (0 : Int64)), none, some (.int ((sg (ix (x12 + (3 : Int32)))) &&& (3 : Int32))), some (.long v78), none, some (.long v82), none, some (.int v86)]) (st' := [.int ((sg (ix (x12 + (3 : Int32)))) &&& (3 : Int32)), .int ((sg (ix (x12 + (1 : Int32)))) &&& (3 : Int32))]) rfl ?_
              refine wpl_icmp (a := 592) (b := 584) rfl (by decide) rfl rfl (wpl_br (p := ((sg (ix (x12 + (1 : Int32)))) &&& (3 : Int32)) = ((sg (ix (x12 + (3 : Int32)))) &&& (3 : Int32))) ⟨fun hc88 => ?_, fun hc88 => ?_⟩)
              · have h89 := h87.1 hc88
                refine wpl_sl (n := 2) (pc' := 587) (ls' := [some (.ref 0), some (.ref 1), some (.long x2), none, some (.long x4), none, some (.long x6), none, some (.long x8), none, some (.int x10), some (.int x11), some (.int x12), some (.int ((sg (ix x12)) &&& (7 : Int32))), some (.int ((sg (ix (x12 + (1 : Int32)))) &&& (3 : Int32))), some (.int (sg (ix (x12 + (2 : Int32))))), some (.int (sg (ix (x12 + (3 : Int32))))), some (.int (((sg (ix (x12 + (2 : Int32)))) &&& (2147483647 : Int32)) % (x11 + (1 : Int32)))), some (.int (-1 : Int32)), some (.long (0 : Int64)), none, some (.int ((sg (ix (x12 + (3 : Int32)))) &&& (3 : Int32))), some (.long v78), none, some (.long v82), none, some (.int v86)]) (st' := [.int (-1 : Int32), .int v86]) rfl ?_
                refine wpl_icmp (a := 619) (b := 590) rfl (by decide) rfl rfl (wpl_br (p := v86 = (-1 : Int32)) ⟨fun hc91 => ?_, fun hc91 => ?_⟩)
                · have h92 := h89.1 hc91
                  exact wpl_lle (ls := [some (.ref 0), some (.ref 1), some (.long x2), none, some (.long x4), none, some (.long x6), none, some (.long x8), none, some (.int x10), some (.int x11), some (.int x12), none, none, none, none, none, some (.int (-1 : Int32)), some (.long (0 : Int64)), none, none, none, none, none, none, none]) ⟨rfl, rfl, rfl, rfl, rfl, rfl, rfl, rfl, rfl, rfl, rfl, trivial⟩ h92
                · have h93 := h89.2 hc91
                  refine wpl_sl (n := 1) (pc' := 591) (ls' := [some (.ref 0), some (.ref 1), some (.long x2), none, some (.long x4), none, some (.long x6), none, some (.long x8), none, some (.int x10), some (.int x11), some (.int x12), some (.int ((sg (ix x12)) &&& (7 : Int32))), some (.int ((sg (ix (x12 + (1 : Int32)))) &&& (3 : Int32))), some (.int (sg (ix (x12 + (2 : Int32))))), some (.int (sg (ix (x12 + (3 : Int32))))), some (.int (((sg (ix (x12 + (2 : Int32)))) &&& (2147483647 : Int32)) % (x11 + (1 : Int32)))), some (.int (-1 : Int32)), some (.long (0 : Int64)), none, some (.int ((sg (ix (x12 + (3 : Int32)))) &&& (3 : Int32))), some (.long v78), none, some (.long v82), none, some (.int v86)]) (st' := [.int (0 : Int32)]) rfl ?_
                  exact wpl_ret rfl rfl rfl ⟨(0 : Int32), rfl, h93⟩
              · have h90 := h87.2 hc88
                refine wpl_sl (n := 6) (pc' := 603) (ls' := [some (.ref 0), some (.ref 1), some (.long x2), none, some (.long x4), none, some (.long x6), none, some (.long x8), none, some (.int x10), some (.int x11), some (.int x12), some (.int ((sg (ix x12)) &&& (7 : Int32))), some (.int ((sg (ix (x12 + (1 : Int32)))) &&& (3 : Int32))), some (.int (sg (ix (x12 + (2 : Int32))))), some (.int (sg (ix (x12 + (3 : Int32))))), some (.int (((sg (ix (x12 + (2 : Int32)))) &&& (2147483647 : Int32)) % (x11 + (1 : Int32)))), some (.int (-1 : Int32)), some (.long (0 : Int64)), none, some (.int ((sg (ix (x12 + (3 : Int32)))) &&& (3 : Int32))), some (.long v78), none, some (.long v82), none, some (.int v86)]) (st' := [.long (v78 &&& (v82 ^^^ (-1 : Int64))), .int v86]) rfl ?_
                refine wpl_stat (m' := 4) (me' := lm4) (as := [.long (v78 &&& (v82 ^^^ (-1 : Int64)))]) (r := [.int v86]) rfl rfl rfl rfl rfl ⟨(by first | decide | exact Nat.le_of_ble_eq_true rfl), (by first | decide | exact Nat.le_of_ble_eq_true rfl), (by first | decide | exact Nat.le_of_ble_eq_true rfl), (by first | decide | exact Nat.le_of_ble_eq_true rfl), rfl⟩ (lal_I (lalI.mono h90 fun v95 w94 hh => ?_))
                obtain ⟨s97, rfl, h96⟩ := hh
                refine wpl_icmp (a := 611) (b := 609) rfl (by decide) rfl rfl (wpl_br (p := v86 = v95) ⟨fun hc98 => ?_, fun hc98 => ?_⟩)
                · have h99 := h96.1 hc98
                  refine wpl_sl (n := 4) (pc' := 619) (ls' := [some (.ref 0), some (.ref 1), some (.long x2), none, some (.long x4), none, some (.long x6), none, some (.long x8), none, some (.int x10), some (.int x11), some (.int x12), some (.int ((sg (ix x12)) &&& (7 : Int32))), some (.int ((sg (ix (x12 + (1 : Int32)))) &&& (3 : Int32))), some (.int (sg (ix (x12 + (2 : Int32))))), some (.int (sg (ix (x12 + (3 : Int32))))), some (.int (((sg (ix (x12 + (2 : Int32)))) &&& (2147483647 : Int32)) % (x11 + (1 : Int32)))), some (.int ((sg (ix (x12 + (3 : Int32)))) &&& (3 : Int32))), some (.long v78), none, some (.int ((sg (ix (x12 + (3 : Int32)))) &&& (3 : Int32))), some (.long v78), none, some (.long v82), none, some (.int v86)]) (st' := []) rfl ?_
                  exact wpl_lle (ls := [some (.ref 0), some (.ref 1), some (.long x2), none, some (.long x4), none, some (.long x6), none, some (.long x8), none, some (.int x10), some (.int x11), some (.int x12), none, none, none, none, none, some (.int ((sg (ix (x12 + (3 : Int32)))) &&& (3 : Int32))), some (.long v78), none, none, none, none, none, none, none]) ⟨rfl, rfl, rfl, rfl, rfl, rfl, rfl, rfl, rfl, rfl, rfl, trivial⟩ h99
                · have h100 := h96.2 hc98
                  refine wpl_sl (n := 1) (pc' := 610) (ls' := [some (.ref 0), some (.ref 1), some (.long x2), none, some (.long x4), none, some (.long x6), none, some (.long x8), none, some (.int x10), some (.int x11), some (.int x12), some (.int ((sg (ix x12)) &&& (7 : Int32))), some (.int ((sg (ix (x12 + (1 : Int32)))) &&& (3 : Int32))), some (.int (sg (ix (x12 + (2 : Int32))))), some (.int (sg (ix (x12 + (3 : Int32))))), some (.int (((sg (ix (x12 + (2 : Int32)))) &&& (2147483647 : Int32)) % (x11 + (1 : Int32)))), some (.int (-1 : Int32)), some (.long (0 : Int64)), none, some (.int ((sg (ix (x12 + (3 : Int32)))) &&& (3 : Int32))), some (.long v78), none, some (.long v82), none, some (.int v86)]) (st' := [.int (0 : Int32)]) rfl ?_
                  exact wpl_ret rfl rfl rfl ⟨(0 : Int32), rfl, h100⟩
    · have h13 := h10.2 hc11
      exact wpl_lle (ls := [some (.ref 0), some (.ref 1), some (.long x2), none, some (.long x4), none, some (.long x6), none, some (.long x8), none, some (.int x10), some (.int x11), some (.int x12), some (.int ((sg (ix x12)) &&& (7 : Int32))), some (.int ((sg (ix (x12 + (1 : Int32)))) &&& (3 : Int32))), some (.int (sg (ix (x12 + (2 : Int32))))), some (.int (sg (ix (x12 + (3 : Int32))))), none, some (.int (-1 : Int32)), some (.long (0 : Int64)), none, none, none, none, none, none, none]) ⟨rfl, rfl, rfl, rfl, rfl, rfl, rfl, rfl, rfl, rfl, rfl, rfl, rfl, rfl, rfl, trivial⟩ h13
  · have h5 := h.2 hc3
    refine wpl_sl (n := 1) (pc' := 793) (ls' := [some (.ref 0), some (.ref 1), some (.long x2), none, some (.long x4), none, some (.long x6), none, some (.long x8), none, some (.int x10), some (.int x11), some (.int x12), none, none, none, none, none, none, none, none, none, none, none, none, none, none]) (st' := [.int (1 : Int32)]) rfl ?_
    exact wpl_ret rfl rfl rfl ⟨(1 : Int32), rfl, h5⟩
theorem l0_109 (N : Nat) (sg : Nat → Int32) (x2 : Int64) (x4 : Int64) (x6 : Int64) (x8 : Int64) (x10 : Int32) (x11 : Int32) (x12 : Int32) (x13 : Int32) (x14 : Int32) (x15 : Int32) (x16 : Int32) (x18 : Int32) (x19 : Int64)  (Q : Int32 → Wd → Prop) (h : calI PP 11 16 [.ref 0, .int x14] s (fun v102 s101 => calI PP 16 16 [.ref 0, .int x14] s101 (fun v105 s104 => ((x13 = (0 : Int32)) → calI PP 2 16 [.ref 0, .int x14, .int (x15 &&& (15 : Int32))] s104 (fun v111 s110 => wplI PP QQ (some (N, sg)) 0 lm0 231 [some (.ref 0), some (.ref 1), some (.long x2), none, some (.long x4), none, some (.long x6), none, some (.long x8), none, some (.int x10), some (.int x11), some (.int x12), none, some (.int x14), none, none, none, some (.int x18), some (.long x19), none, some (.int v102), some (.int v105), some (.int v111), some (.int (0 : Int32)), some (.int (1 : Int32)), none] [] (W1 s110) Q)) ∧ (¬ (x13 = (0 : Int32)) → ((x13 = (1 : Int32)) → calI PP 3 16 [.ref 0, .int x14, .int (x15 &&& (15 : Int32))] s104 (fun v117 s116 => wplI PP QQ (some (N, sg)) 0 lm0 231 [some (.ref 0), some (.ref 1), some (.long x2), none, some (.long x4), none, some (.long x6), none, some (.long x8), none, some (.int x10), some (.int x11), some (.int x12), none, some (.int x14), none, none, none, some (.int x18), some (.long x19), none, some (.int v102), some (.int v105), some (.int v117), some (.int (1 : Int32)), some (.int (-1 : Int32)), none] [] (W1 s116) Q)) ∧ (¬ (x13 = (1 : Int32)) → calI PP 4 16 [.ref 0, .int x14, .int (x15 &&& (15 : Int32)), .int (x16 &&& (7 : Int32)), .int ((x16 &&& (7 : Int32)) + ((XT.ushr x16 (3 : Int32)) &&& (3 : Int32)))] s104 (fun v120 s119 => ∀ m122, m122 = (if (XT.ushr (x15 &&& (15 : Int32)) (2 : Int32)) = (0 : Int32) then (3 : Int32) else (2 : Int32)) → (wplI PP QQ (some (N, sg)) 0 lm0 231 [some (.ref 0), some (.ref 1), some (.long x2), none, some (.long x4), none, some (.long x6), none, some (.long x8), none, some (.int x10), some (.int x11), some (.int x12), none, some (.int x14), none, none, none, some (.int x18), some (.long x19), none, some (.int v102), some (.int v105), some (.int v120), some (.int m122), some (.int (0 : Int32)), none] [] (W1 s119) Q))))))) : wplI PP QQ (some (N, sg)) 0 lm0 109 [some (.ref 0), some (.ref 1), some (.long x2), none, some (.long x4), none, some (.long x6), none, some (.long x8), none, some (.int x10), some (.int x11), some (.int x12), some (.int x13), some (.int x14), some (.int x15), some (.int x16), none, some (.int x18), some (.long x19), none, none, none, none, none, none, none] [] (W1 s) Q := by
  refine wpl_sl (n := 2) (pc' := 112) (ls' := [some (.ref 0), some (.ref 1), some (.long x2), none, some (.long x4), none, some (.long x6), none, some (.long x8), none, some (.int x10), some (.int x11), some (.int x12), some (.int x13), some (.int x14), some (.int x15), some (.int x16), none, some (.int x18), some (.long x19), none, none, none, none, none, none, none]) (st' := [.int x14, .ref 1]) rfl ?_
  refine wpl_v1 (m' := 11) (me' := cm11) (as := [.int x14]) (r := []) rfl rfl rfl rfl rfl ⟨by decide, (by first | decide | exact Nat.le_of_ble_eq_true rfl), (by first | decide | exact Nat.le_of_ble_eq_true rfl), rfl⟩ (cal_I (calI.mono h fun v102 s101 h103 => ?_))
  refine wpl_sl (n := 3) (pc' := 120) (ls' := [some (.ref 0), some (.ref 1), some (.long x2), none, some (.long x4), none, some (.long x6), none, some (.long x8), none, some (.int x10), some (.int x11), some (.int x12), some (.int x13), some (.int x14), some (.int x15), some (.int x16), none, some (.int x18), some (.long x19), none, some (.int v102), none, none, none, none, none]) (st' := [.int x14, .ref 1]) rfl ?_
  refine wpl_v1 (m' := 16) (me' := cm16) (as := [.int x14]) (r := []) rfl rfl rfl rfl rfl ⟨by decide, (by first | decide | exact Nat.le_of_ble_eq_true rfl), (by first | decide | exact Nat.le_of_ble_eq_true rfl), rfl⟩ (cal_I (calI.mono h103 fun v105 s104 h106 => ?_))
  refine wpl_sl (n := 4) (pc' := 130) (ls' := [some (.ref 0), some (.ref 1), some (.long x2), none, some (.long x4), none, some (.long x6), none, some (.long x8), none, some (.int x10), some (.int x11), some (.int x12), some (.int x13), some (.int x14), some (.int x15), some (.int x16), none, some (.int x18), some (.long x19), none, some (.int v102), some (.int v105), none, none, some (.int (0 : Int32)), none]) (st' := [.int x13]) rfl ?_
  refine wpl_if (a := 155) (b := 133) rfl (by decide) rfl rfl (wpl_br (p := x13 = (0 : Int32)) ⟨fun hc107 => ?_, fun hc107 => ?_⟩)
  · have h108 := h106.1 hc107
    refine wpl_sl (n := 5) (pc' := 141) (ls' := [some (.ref 0), some (.ref 1), some (.long x2), none, some (.long x4), none, some (.long x6), none, some (.long x8), none, some (.int x10), some (.int x11), some (.int x12), some (.int x13), some (.int x14), some (.int x15), some (.int x16), none, some (.int x18), some (.long x19), none, some (.int v102), some (.int v105), none, none, some (.int (0 : Int32)), none]) (st' := [.int (x15 &&& (15 : Int32)), .int x14, .ref 1]) rfl ?_
    refine wpl_v1 (m' := 2) (me' := cm2) (as := [.int x14, .int (x15 &&& (15 : Int32))]) (r := []) rfl rfl rfl rfl rfl ⟨by decide, (by first | decide | exact Nat.le_of_ble_eq_true rfl), (by first | decide | exact Nat.le_of_ble_eq_true rfl), rfl⟩ (cal_I (calI.mono h108 fun v111 s110 h112 => ?_))
    refine wpl_sl (n := 6) (pc' := 231) (ls' := [some (.ref 0), some (.ref 1), some (.long x2), none, some (.long x4), none, some (.long x6), none, some (.long x8), none, some (.int x10), some (.int x11), some (.int x12), some (.int x13), some (.int x14), some (.int x15), some (.int x16), none, some (.int x18), some (.long x19), none, some (.int v102), some (.int v105), some (.int v111), some (.int (0 : Int32)), some (.int (1 : Int32)), none]) (st' := []) rfl ?_
    exact wpl_lle (ls := [some (.ref 0), some (.ref 1), some (.long x2), none, some (.long x4), none, some (.long x6), none, some (.long x8), none, some (.int x10), some (.int x11), some (.int x12), none, some (.int x14), none, none, none, some (.int x18), some (.long x19), none, some (.int v102), some (.int v105), some (.int v111), some (.int (0 : Int32)), some (.int (1 : Int32)), none]) ⟨rfl, rfl, rfl, rfl, rfl, rfl, rfl, rfl, rfl, rfl, rfl, rfl, rfl, rfl, rfl, rfl, rfl, trivial⟩ h112
  · have h109 := h106.2 hc107
    refine wpl_sl (n := 2) (pc' := 158) (ls' := [some (.ref 0), some (.ref 1), some (.long x2), none, some (.long x4), none, some (.long x6), none, some (.long x8), none, some (.int x10), some (.int x11), some (.int x12), some (.int x13), some (.int x14), some (.int x15), some (.int x16), none, some (.int x18), some (.long x19), none, some (.int v102), some (.int v105), none, none, some (.int (0 : Int32)), none]) (st' := [.int (1 : Int32), .int x13]) rfl ?_
    refine wpl_icmp (a := 183) (b := 161) rfl (by decide) rfl rfl (wpl_br (p := x13 = (1 : Int32)) ⟨fun hc113 => ?_, fun hc113 => ?_⟩)
    · have h114 := h109.1 hc113
      refine wpl_sl (n := 5) (pc' := 169) (ls' := [some (.ref 0), some (.ref 1), some (.long x2), none, some (.long x4), none, some (.long x6), none, some (.long x8), none, some (.int x10), some (.int x11), some (.int x12), some (.int x13), some (.int x14), some (.int x15), some (.int x16), none, some (.int x18), some (.long x19), none, some (.int v102), some (.int v105), none, none, some (.int (0 : Int32)), none]) (st' := [.int (x15 &&& (15 : Int32)), .int x14, .ref 1]) rfl ?_
      refine wpl_v1 (m' := 3) (me' := cm3) (as := [.int x14, .int (x15 &&& (15 : Int32))]) (r := []) rfl rfl rfl rfl rfl ⟨by decide, (by first | decide | exact Nat.le_of_ble_eq_true rfl), (by first | decide | exact Nat.le_of_ble_eq_true rfl), rfl⟩ (cal_I (calI.mono h114 fun v117 s116 h118 => ?_))
      refine wpl_sl (n := 6) (pc' := 231) (ls' := [some (.ref 0), some (.ref 1), some (.long x2), none, some (.long x4), none, some (.long x6), none, some (.long x8), none, some (.int x10), some (.int x11), some (.int x12), some (.int x13), some (.int x14), some (.int x15), some (.int x16), none, some (.int x18), some (.long x19), none, some (.int v102), some (.int v105), some (.int v117), some (.int (1 : Int32)), some (.int (-1 : Int32)), none]) (st' := []) rfl ?_
      exact wpl_lle (ls := [some (.ref 0), some (.ref 1), some (.long x2), none, some (.long x4), none, some (.long x6), none, some (.long x8), none, some (.int x10), some (.int x11), some (.int x12), none, some (.int x14), none, none, none, some (.int x18), some (.long x19), none, some (.int v102), some (.int v105), some (.int v117), some (.int (1 : Int32)), some (.int (-1 : Int32)), none]) ⟨rfl, rfl, rfl, rfl, rfl, rfl, rfl, rfl, rfl, rfl, rfl, rfl, rfl, rfl, rfl, rfl, rfl, trivial⟩ h118
    · have h115 := h109.2 hc113
      refine wpl_sl (n := 5) (pc' := 191) (ls' := [some (.ref 0), some (.ref 1), some (.long x2), none, some (.long x4), none, some (.long x6), none, some (.long x8), none, some (.int x10), some (.int x11), some (.int x12), some (.int x13), some (.int x14), some (.int x15), some (.int x16), none, some (.int x18), some (.long x19), none, some (.int v102), some (.int v105), none, none, some (.int (0 : Int32)), some (.int (x16 &&& (7 : Int32)))]) (st' := [.ref 1]) rfl ?_
      refine wpl_sl (n := 5) (pc' := 200) (ls' := [some (.ref 0), some (.ref 1), some (.long x2), none, some (.long x4), none, some (.long x6), none, some (.long x8), none, some (.int x10), some (.int x11), some (.int x12), some (.int x13), some (.int x14), some (.int x15), some (.int x16), none, some (.int x18), some (.long x19), none, some (.int v102), some (.int v105), none, none, some (.int (0 : Int32)), some (.int (x16 &&& (7 : Int32)))]) (st' := [.int (x16 &&& (7 : Int32)), .int (x15 &&& (15 : Int32)), .int x14, .ref 1]) rfl ?_
      refine wpl_sl (n := 5) (pc' := 207) (ls' := [some (.ref 0), some (.ref 1), some (.long x2), none, some (.long x4), none, some (.long x6), none, some (.long x8), none, some (.int x10), some (.int x11), some (.int x12), some (.int x13), some (.int x14), some (.int x15), some (.int x16), none, some (.int x18), some (.long x19), none, some (.int v102), some (.int v105), none, none, some (.int (0 : Int32)), some (.int (x16 &&& (7 : Int32)))]) (st' := [.int (3 : Int32), .int (XT.ushr x16 (3 : Int32)), .int (x16 &&& (7 : Int32)), .int (x16 &&& (7 : Int32)), .int (x15 &&& (15 : Int32)), .int x14, .ref 1]) rfl ?_
      refine wpl_sl (n := 2) (pc' := 209) (ls' := [some (.ref 0), some (.ref 1), some (.long x2), none, some (.long x4), none, some (.long x6), none, some (.long x8), none, some (.int x10), some (.int x11), some (.int x12), some (.int x13), some (.int x14), some (.int x15), some (.int x16), none, some (.int x18), some (.long x19), none, some (.int v102), some (.int v105), none, none, some (.int (0 : Int32)), some (.int (x16 &&& (7 : Int32)))]) (st' := [.int ((x16 &&& (7 : Int32)) + ((XT.ushr x16 (3 : Int32)) &&& (3 : Int32))), .int (x16 &&& (7 : Int32)), .int (x15 &&& (15 : Int32)), .int x14, .ref 1]) rfl ?_
      refine wpl_v1 (m' := 4) (me' := cm4) (as := [.int x14, .int (x15 &&& (15 : Int32)), .int (x16 &&& (7 : Int32)), .int ((x16 &&& (7 : Int32)) + ((XT.ushr x16 (3 : Int32)) &&& (3 : Int32)))]) (r := []) rfl rfl rfl rfl rfl ⟨by decide, (by first | decide | exact Nat.le_of_ble_eq_true rfl), (by first | decide | exact Nat.le_of_ble_eq_true rfl), rfl⟩ (cal_I (calI.mono h115 fun v120 s119 h121 => ?_))
      refine wpl_sl (n := 6) (pc' := 221) (ls' := [some (.ref 0), some (.ref 1), some (.long x2), none, some (.long x4), none, some (.long x6), none, some (.long x8), none, some (.int x10), some (.int x11), some (.int x12), some (.int x13), some (.int x14), some (.int x15), some (.int x16), none, some (.int x18), some (.long x19), none, some (.int v102), some (.int v105), some (.int v120), none, some (.int (0 : Int32)), some (.int (x16 &&& (7 : Int32)))]) (st' := [.int (XT.ushr (x15 &&& (15 : Int32)) (2 : Int32))]) rfl ?_
      have hm123 : ∀ m122, m122 = (if (XT.ushr (x15 &&& (15 : Int32)) (2 : Int32)) = (0 : Int32) then (3 : Int32) else (2 : Int32)) → wplI PP QQ (some (N, sg)) 0 lm0 229 [some (.ref 0), some (.ref 1), some (.long x2), none, some (.long x4), none, some (.long x6), none, some (.long x8), none, some (.int x10), some (.int x11), some (.int x12), some (.int x13), some (.int x14), some (.int x15), some (.int x16), none, some (.int x18), some (.long x19), none, some (.int v102), some (.int v105), some (.int v120), none, some (.int (0 : Int32)), some (.int (x16 &&& (7 : Int32)))] [.int m122] (W1 s119) Q := by
        intro m122 em122
        have h124 := h121 m122 em122
        refine wpl_sl (n := 1) (pc' := 231) (ls' := [some (.ref 0), some (.ref 1), some (.long x2), none, some (.long x4), none, some (.long x6), none, some (.long x8), none, some (.int x10), some (.int x11), some (.int x12), some (.int x13), some (.int x14), some (.int x15), some (.int x16), none, some (.int x18), some (.long x19), none, some (.int v102), some (.int v105), some (.int v120), some (.int m122), some (.int (0 : Int32)), some (.int (x16 &&& (7 : Int32)))]) (st' := []) rfl ?_
        exact wpl_lle (ls := [some (.ref 0), some (.ref 1), some (.long x2), none, some (.long x4), none, some (.long x6), none, some (.long x8), none, some (.int x10), some (.int x11), some (.int x12), none, some (.int x14), none, none, none, some (.int x18), some (.long x19), none, some (.int v102), some (.int v105), some (.int v120), some (.int m122), some (.int (0 : Int32)), none]) ⟨rfl, rfl, rfl, rfl, rfl, rfl, rfl, rfl, rfl, rfl, rfl, rfl, rfl, rfl, rfl, rfl, rfl, trivial⟩ h124
      refine wpl_if (a := 228) (b := 224) rfl (by decide) rfl rfl (wpl_br (p := (XT.ushr (x15 &&& (15 : Int32)) (2 : Int32)) = (0 : Int32)) ⟨fun hc125 => ?_, fun hc125 => ?_⟩)
      · refine wpl_sl (n := 2) (pc' := 229) (ls' := [some (.ref 0), some (.ref 1), some (.long x2), none, some (.long x4), none, some (.long x6), none, some (.long x8), none, some (.int x10), some (.int x11), some (.int x12), some (.int x13), some (.int x14), some (.int x15), some (.int x16), none, some (.int x18), some (.long x19), none, some (.int v102), some (.int v105), some (.int v120), none, some (.int (0 : Int32)), some (.int (x16 &&& (7 : Int32)))]) (st' := [.int (3 : Int32)]) rfl ?_
        first | exact hm123 _ (by simp only [if_pos hc125]) | exact wpl_lle (by repeat (first | exact trivial | refine ⟨rfl, ?_⟩)) (hm123 _ (by simp only [if_pos hc125]))
      · refine wpl_sl (n := 1) (pc' := 229) (ls' := [some (.ref 0), some (.ref 1), some (.long x2), none, some (.long x4), none, some (.long x6), none, some (.long x8), none, some (.int x10), some (.int x11), some (.int x12), some (.int x13), some (.int x14), some (.int x15), some (.int x16), none, some (.int x18), some (.long x19), none, some (.int v102), some (.int v105), some (.int v120), none, some (.int (0 : Int32)), some (.int (x16 &&& (7 : Int32)))]) (st' := [.int (2 : Int32)]) rfl ?_
        first | exact hm123 _ (by simp only [if_neg hc125]) | exact wpl_lle (by repeat (first | exact trivial | refine ⟨rfl, ?_⟩)) (hm123 _ (by simp only [if_neg hc125]))
theorem l0_435 (N : Nat) (sg : Nat → Int32) (x2 : Int64) (x4 : Int64) (x6 : Int64) (x8 : Int64) (x10 : Int32) (x11 : Int32) (x12 : Int32) (x18 : Int32) (x19 : Int64)  (Q : Int32 → Wd → Prop) (h : wplI PP QQ (some (N, sg)) 0 lm0 619 [some (.ref 0), some (.ref 1), some (.long x2), none, some (.long x4), none, some (.long x6), none, some (.long x8), none, some (.int x10), some (.int x11), some (.int x12), none, none, none, none, none, some (.int x18), some (.long x19), none, none, none, none, none, none, none] [] (W1 s) Q) : wplI PP QQ (some (N, sg)) 0 lm0 435 [some (.ref 0), some (.ref 1), some (.long x2), none, some (.long x4), none, some (.long x6), none, some (.long x8), none, some (.int x10), some (.int x11), some (.int x12), none, none, none, none, none, some (.int x18), some (.long x19), none, none, none, none, none, none, none] [] (W1 s) Q := by
  refine wpl_sl (n := 1) (pc' := 619) (ls' := [some (.ref 0), some (.ref 1), some (.long x2), none, some (.long x4), none, some (.long x6), none, some (.long x8), none, some (.int x10), some (.int x11), some (.int x12), none, none, none, none, none, some (.int x18), some (.long x19), none, none, none, none, none, none, none]) (st' := []) rfl ?_
  exact h
theorem l0_619 (N : Nat) (sg : Nat → Int32) (x2 : Int64) (x4 : Int64) (x6 : Int64) (x8 : Int64) (x10 : Int32) (x11 : Int32) (x12 : Int32) (x18 : Int32) (x19 : Int64)  (Q : Int32 → Wd → Prop) (h : ∀ m126, m126 = (if x18 = (0 : Int32) then (x2 ||| x19) else x2) → ∀ m127, m127 = (if x18 = (0 : Int32) then x4 else (if x18 = (1 : Int32) then (x4 ||| x19) else x4)) → ∀ m128, m128 = (if x18 = (0 : Int32) then x6 else (if x18 = (1 : Int32) then x6 else (if x18 = (2 : Int32) then (x6 ||| x19) else x6))) → ∀ m129, m129 = (if x18 = (0 : Int32) then x8 else (if x18 = (1 : Int32) then x8 else (if x18 = (2 : Int32) then x8 else (if x18 = (3 : Int32) then (x8 ||| x19) else x8)))) → (calI PP 12 16 [.ref 0] s (fun v133 s132 => ((v133 = x10) → calI PP 14 16 [.ref 0] s132 (fun v139 s138 => ((v139 = x11) → wplI PP QQ (some (N, sg)) 0 lm0 700 [some (.ref 0), some (.ref 1), some (.long m126), none, some (.long m127), none, some (.long m128), none, some (.long m129), none, some (.int x10), some (.int x11), some (.int x12), none, none, none, none, none, none, none, none, some (.int (0 : Int32)), none, none, none, none, none] [] (W1 s138) Q) ∧ (¬ (v139 = x11) → Q (0 : Int32) (W1 s138)))) ∧ (¬ (v133 = x10) → Q (0 : Int32) (W1 s132))))) : wplI PP QQ (some (N, sg)) 0 lm0 619 [some (.ref 0), some (.ref 1), some (.long x2), none, some (.long x4), none, some (.long x6), none, some (.long x8), none, some (.int x10), some (.int x11), some (.int x12), none, none, none, none, none, some (.int x18), some (.long x19), none, none, none, none, none, none, none] [] (W1 s) Q := by
  refine wpl_sl (n := 1) (pc' := 621) (ls' := [some (.ref 0), some (.ref 1), some (.long x2), none, some (.long x4), none, some (.long x6), none, some (.long x8), none, some (.int x10), some (.int x11), some (.int x12), none, none, none, none, none, some (.int x18), some (.long x19), none, none, none, none, none, none, none]) (st' := [.int x18]) rfl ?_
  have hm130 : ∀ m126, m126 = (if x18 = (0 : Int32) then (x2 ||| x19) else x2) → ∀ m127, m127 = (if x18 = (0 : Int32) then x4 else (if x18 = (1 : Int32) then (x4 ||| x19) else x4)) → ∀ m128, m128 = (if x18 = (0 : Int32) then x6 else (if x18 = (1 : Int32) then x6 else (if x18 = (2 : Int32) then (x6 ||| x19) else x6))) → ∀ m129, m129 = (if x18 = (0 : Int32) then x8 else (if x18 = (1 : Int32) then x8 else (if x18 = (2 : Int32) then x8 else (if x18 = (3 : Int32) then (x8 ||| x19) else x8)))) → wplI PP QQ (some (N, sg)) 0 lm0 677 [some (.ref 0), some (.ref 1), some (.long m126), none, some (.long m127), none, some (.long m128), none, some (.long m129), none, some (.int x10), some (.int x11), some (.int x12), none, none, none, none, none, some (.int x18), some (.long x19), none, none, none, none, none, none, none] [] (W1 s) Q := by
    intro m126 em126 m127 em127 m128 em128 m129 em129
    have h131 := h m126 em126 m127 em127 m128 em128 m129 em129
    refine wpl_sl (n := 1) (pc' := 678) (ls' := [some (.ref 0), some (.ref 1), some (.long m126), none, some (.long m127), none, some (.long m128), none, some (.long m129), none, some (.int x10), some (.int x11), some (.int x12), none, none, none, none, none, some (.int x18), some (.long x19), none, none, none, none, none, none, none]) (st' := [.ref 1]) rfl ?_
    refine wpl_v1 (m' := 12) (me' := cm12) (as := []) (r := []) rfl rfl rfl rfl rfl ⟨by decide, (by first | decide | exact Nat.le_of_ble_eq_true rfl), (by first | decide | exact Nat.le_of_ble_eq_true rfl), rfl⟩ (cal_I (calI.mono h131 fun v133 s132 h134 => ?_))
    refine wpl_sl (n := 1) (pc' := 683) (ls' := [some (.ref 0), some (.ref 1), some (.long m126), none, some (.long m127), none, some (.long m128), none, some (.long m129), none, some (.int x10), some (.int x11), some (.int x12), none, none, none, none, none, some (.int x18), some (.long x19), none, none, none, none, none, none, none]) (st' := [.int x10, .int v133]) rfl ?_
    refine wpl_icmp (a := 695) (b := 686) rfl (by decide) rfl rfl (wpl_br (p := v133 = x10) ⟨fun hc135 => ?_, fun hc135 => ?_⟩)
    · have h136 := h134.1 hc135
      refine wpl_sl (n := 1) (pc' := 687) (ls' := [some (.ref 0), some (.ref 1), some (.long m126), none, some (.long m127), none, some (.long m128), none, some (.long m129), none, some (.int x10), some (.int x11), some (.int x12), none, none, none, none, none, some (.int x18), some (.long x19), none, none, none, none, none, none, none]) (st' := [.ref 1]) rfl ?_
      refine wpl_v1 (m' := 14) (me' := cm14) (as := []) (r := []) rfl rfl rfl rfl rfl ⟨by decide, (by first | decide | exact Nat.le_of_ble_eq_true rfl), (by first | decide | exact Nat.le_of_ble_eq_true rfl), rfl⟩ (cal_I (calI.mono h136 fun v139 s138 h140 => ?_))
      refine wpl_sl (n := 1) (pc' := 692) (ls' := [some (.ref 0), some (.ref 1), some (.long m126), none, some (.long m127), none, some (.long m128), none, some (.long m129), none, some (.int x10), some (.int x11), some (.int x12), none, none, none, none, none, some (.int x18), some (.long x19), none, none, none, none, none, none, none]) (st' := [.int x11, .int v139]) rfl ?_
      refine wpl_icmp (a := 697) (b := 695) rfl (by decide) rfl rfl (wpl_br (p := v139 = x11) ⟨fun hc141 => ?_, fun hc141 => ?_⟩)
      · have h142 := h140.1 hc141
        refine wpl_sl (n := 2) (pc' := 700) (ls' := [some (.ref 0), some (.ref 1), some (.long m126), none, some (.long m127), none, some (.long m128), none, some (.long m129), none, some (.int x10), some (.int x11), some (.int x12), none, none, none, none, none, some (.int x18), some (.long x19), none, some (.int (0 : Int32)), none, none, none, none, none]) (st' := []) rfl ?_
        exact wpl_lle (ls := [some (.ref 0), some (.ref 1), some (.long m126), none, some (.long m127), none, some (.long m128), none, some (.long m129), none, some (.int x10), some (.int x11), some (.int x12), none, none, none, none, none, none, none, none, some (.int (0 : Int32)), none, none, none, none, none]) ⟨rfl, rfl, rfl, rfl, rfl, rfl, rfl, rfl, rfl, rfl, trivial⟩ h142
      · have h143 := h140.2 hc141
        refine wpl_sl (n := 1) (pc' := 696) (ls' := [some (.ref 0), some (.ref 1), some (.long m126), none, some (.long m127), none, some (.long m128), none, some (.long m129), none, some (.int x10), some (.int x11), some (.int x12), none, none, none, none, none, some (.int x18), some (.long x19), none, none, none, none, none, none, none]) (st' := [.int (0 : Int32)]) rfl ?_
        exact wpl_ret rfl rfl rfl ⟨(0 : Int32), rfl, h143⟩
    · have h137 := h134.2 hc135
      refine wpl_sl (n := 1) (pc' := 696) (ls' := [some (.ref 0), some (.ref 1), some (.long m126), none, some (.long m127), none, some (.long m128), none, some (.long m129), none, some (.int x10), some (.int x11), some (.int x12), none, none, none, none, none, some (.int x18), some (.long x19), none, none, none, none, none, none, none]) (st' := [.int (0 : Int32)]) rfl ?_
      exact wpl_ret rfl rfl rfl ⟨(0 : Int32), rfl, h137⟩
  refine wpl_if (a := 632) (b := 624) rfl (by decide) rfl rfl (wpl_br (p := x18 = (0 : Int32)) ⟨fun hc144 => ?_, fun hc144 => ?_⟩)
  · refine wpl_sl (n := 5) (pc' := 677) (ls' := [some (.ref 0), some (.ref 1), some (.long (x2 ||| x19)), none, some (.long x4), none, some (.long x6), none, some (.long x8), none, some (.int x10), some (.int x11), some (.int x12), none, none, none, none, none, some (.int x18), some (.long x19), none, none, none, none, none, none, none]) (st' := []) rfl ?_
    first | exact hm130 _ (by simp only [if_pos hc144]) _ (by simp only [if_pos hc144]) _ (by simp only [if_pos hc144]) _ (by simp only [if_pos hc144]) | exact wpl_lle (by repeat (first | exact trivial | refine ⟨rfl, ?_⟩)) (hm130 _ (by simp only [if_pos hc144]) _ (by simp only [if_pos hc144]) _ (by simp only [if_pos hc144]) _ (by simp only [if_pos hc144]))
  · refine wpl_sl (n := 2) (pc' := 635) (ls' := [some (.ref 0), some (.ref 1), some (.long x2), none, some (.long x4), none, some (.long x6), none, some (.long x8), none, some (.int x10), some (.int x11), some (.int x12), none, none, none, none, none, some (.int x18), some (.long x19), none, none, none, none, none, none, none]) (st' := [.int (1 : Int32), .int x18]) rfl ?_
    refine wpl_icmp (a := 648) (b := 638) rfl (by decide) rfl rfl (wpl_br (p := x18 = (1 : Int32)) ⟨fun hc145 => ?_, fun hc145 => ?_⟩)
    · refine wpl_sl (n := 5) (pc' := 677) (ls' := [some (.ref 0), some (.ref 1), some (.long x2), none, some (.long (x4 ||| x19)), none, some (.long x6), none, some (.long x8), none, some (.int x10), some (.int x11), some (.int x12), none, none, none, none, none, some (.int x18), some (.long x19), none, none, none, none, none, none, none]) (st' := []) rfl ?_
      first | exact hm130 _ (by simp only [if_neg hc144, if_pos hc145]) _ (by simp only [if_neg hc144, if_pos hc145]) _ (by simp only [if_neg hc144, if_pos hc145]) _ (by simp only [if_neg hc144, if_pos hc145]) | exact wpl_lle (by repeat (first | exact trivial | refine ⟨rfl, ?_⟩)) (hm130 _ (by simp only [if_neg hc144, if_pos hc145]) _ (by simp only [if_neg hc144, if_pos hc145]) _ (by simp only [if_neg hc144, if_pos hc145]) _ (by simp only [if_neg hc144, if_pos hc145]))
    · refine wpl_sl (n := 2) (pc' := 651) (ls' := [some (.ref 0), some (.ref 1), some (.long x2), none, some (.long x4), none, some (.long x6), none, some (.long x8), none, some (.int x10), some (.int x11), some (.int x12), none, none, none, none, none, some (.int x18), some (.long x19), none, none, none, none, none, none, none]) (st' := [.int (2 : Int32), .int x18]) rfl ?_
      refine wpl_icmp (a := 664) (b := 654) rfl (by decide) rfl rfl (wpl_br (p := x18 = (2 : Int32)) ⟨fun hc146 => ?_, fun hc146 => ?_⟩)
      · refine wpl_sl (n := 5) (pc' := 677) (ls' := [some (.ref 0), some (.ref 1), some (.long x2), none, some (.long x4), none, some (.long (x6 ||| x19)), none, some (.long x8), none, some (.int x10), some (.int x11), some (.int x12), none, none, none, none, none, some (.int x18), some (.long x19), none, none, none, none, none, none, none]) (st' := []) rfl ?_
        first | exact hm130 _ (by simp only [if_neg hc144, if_neg hc145, if_pos hc146]) _ (by simp only [if_neg hc144, if_neg hc145, if_pos hc146]) _ (by simp only [if_neg hc144, if_neg hc145, if_pos hc146]) _ (by simp only [if_neg hc144, if_neg hc145, if_pos hc146]) | exact wpl_lle (by repeat (first | exact trivial | refine ⟨rfl, ?_⟩)) (hm130 _ (by simp only [if_neg hc144, if_neg hc145, if_pos hc146]) _ (by simp only [if_neg hc144, if_neg hc145, if_pos hc146]) _ (by simp only [if_neg hc144, if_neg hc145, if_pos hc146]) _ (by simp only [if_neg hc144, if_neg hc145, if_pos hc146]))
      · refine wpl_sl (n := 2) (pc' := 667) (ls' := [some (.ref 0), some (.ref 1), some (.long x2), none, some (.long x4), none, some (.long x6), none, some (.long x8), none, some (.int x10), some (.int x11), some (.int x12), none, none, none, none, none, some (.int x18), some (.long x19), none, none, none, none, none, none, none]) (st' := [.int (3 : Int32), .int x18]) rfl ?_
        refine wpl_icmp (a := 677) (b := 670) rfl (by decide) rfl rfl (wpl_br (p := x18 = (3 : Int32)) ⟨fun hc147 => ?_, fun hc147 => ?_⟩)
        · refine wpl_sl (n := 4) (pc' := 677) (ls' := [some (.ref 0), some (.ref 1), some (.long x2), none, some (.long x4), none, some (.long x6), none, some (.long (x8 ||| x19)), none, some (.int x10), some (.int x11), some (.int x12), none, none, none, none, none, some (.int x18), some (.long x19), none, none, none, none, none, none, none]) (st' := []) rfl ?_
          first | exact hm130 _ (by simp only [if_neg hc144, if_neg hc145, if_neg hc146, if_pos hc147]) _ (by simp only [if_neg hc144, if_neg hc145, if_neg hc146, if_pos hc147]) _ (by simp only [if_neg hc144, if_neg hc145, if_neg hc146, if_pos hc147]) _ (by simp only [if_neg hc144, if_neg hc145, if_neg hc146, if_pos hc147]) | exact wpl_lle (by repeat (first | exact trivial | refine ⟨rfl, ?_⟩)) (hm130 _ (by simp only [if_neg hc144, if_neg hc145, if_neg hc146, if_pos hc147]) _ (by simp only [if_neg hc144, if_neg hc145, if_neg hc146, if_pos hc147]) _ (by simp only [if_neg hc144, if_neg hc145, if_neg hc146, if_pos hc147]) _ (by simp only [if_neg hc144, if_neg hc145, if_neg hc146, if_pos hc147]))
        · first | exact hm130 _ (by simp only [if_neg hc144, if_neg hc145, if_neg hc146, if_neg hc147]) _ (by simp only [if_neg hc144, if_neg hc145, if_neg hc146, if_neg hc147]) _ (by simp only [if_neg hc144, if_neg hc145, if_neg hc146, if_neg hc147]) _ (by simp only [if_neg hc144, if_neg hc145, if_neg hc146, if_neg hc147]) | exact wpl_lle (by repeat (first | exact trivial | refine ⟨rfl, ?_⟩)) (hm130 _ (by simp only [if_neg hc144, if_neg hc145, if_neg hc146, if_neg hc147]) _ (by simp only [if_neg hc144, if_neg hc145, if_neg hc146, if_neg hc147]) _ (by simp only [if_neg hc144, if_neg hc145, if_neg hc146, if_neg hc147]) _ (by simp only [if_neg hc144, if_neg hc145, if_neg hc146, if_neg hc147]))
theorem l0_231 (N : Nat) (sg : Nat → Int32) (x2 : Int64) (x4 : Int64) (x6 : Int64) (x8 : Int64) (x10 : Int32) (x11 : Int32) (x12 : Int32) (x14 : Int32) (x18 : Int32) (x19 : Int64) (x21 : Int32) (x22 : Int32) (x23 : Int32) (x24 : Int32) (x25 : Int32)  (Q : Int32 → Wd → Prop) (h : ((x23 = (-1 : Int32)) → calI PP 11 16 [.ref 0, .int x14] s (fun v152 s151 => ((v152 = x21) → calI PP 16 16 [.ref 0, .int x14] s151 (fun v158 s157 => ((v158 = x22) → wplI PP QQ (some (N, sg)) 0 lm0 357 [some (.ref 0), some (.ref 1), some (.long x2), none, some (.long x4), none, some (.long x6), none, some (.long x8), none, some (.int x10), some (.int x11), some (.int x12), none, none, none, none, none, some (.int x18), some (.long x19), none, none, none, none, none, none, none] [] (W1 s157) Q) ∧ (¬ (v158 = x22) → Q (0 : Int32) (W1 s157)))) ∧ (¬ (v152 = x21) → Q (0 : Int32) (W1 s151)))) ∧ (¬ (x23 = (-1 : Int32)) → ((x23 = x10) → calI PP 13 16 [.ref 0, .int x23, .int (0 : Int32)] s (fun v167 s166 => ((v167 = x24) → calI PP 13 16 [.ref 0, .int x23, .int (1 : Int32)] s166 (fun v173 s172 => ((v173 = x14) → calI PP 13 16 [.ref 0, .int x23, .int (2 : Int32)] s172 (fun v179 s178 => ((v179 = (x22 + (1 : Int32))) → calI PP 11 16 [.ref 0, .int x14] s178 (fun v185 s184 => ((v185 = (x21 + x25)) → calI PP 15 16 [.ref 0, .int ((x11 + (1 : Int32)) - (1 : Int32))] s184 (fun v191 s190 => ((v191 = x23) → wplI PP QQ (some (N, sg)) 0 lm0 357 [some (.ref 0), some (.ref 1), some (.long x2), none, some (.long x4), none, some (.long x6), none, some (.long x8), none, some (.int (x10 + (1 : Int32))), some (.int (x11 + (1 : Int32))), some (.int x12), none, none, none, none, none, some (.int x14), some (.long ((1 : Int64) <<< ((x23).toInt64 &&& 63))), none, none, none, none, none, none, none] [] (W1 s190) Q) ∧ (¬ (v191 = x23) → Q (0 : Int32) (W1 s190)))) ∧ (¬ (v185 = (x21 + x25)) → Q (0 : Int32) (W1 s184)))) ∧ (¬ (v179 = (x22 + (1 : Int32))) → Q (0 : Int32) (W1 s178)))) ∧ (¬ (v173 = x14) → Q (0 : Int32) (W1 s172)))) ∧ (¬ (v167 = x24) → Q (0 : Int32) (W1 s166)))) ∧ (¬ (x23 = x10) → Q (0 : Int32) (W1 s)))) : wplI PP QQ (some (N, sg)) 0 lm0 231 [some (.ref 0), some (.ref 1), some (.long x2), none, some (.long x4), none, some (.long x6), none, some (.long x8), none, some (.int x10), some (.int x11), some (.int x12), none, some (.int x14), none, none, none, some (.int x18), some (.long x19), none, some (.int x21), some (.int x22), some (.int x23), some (.int x24), some (.int x25), none] [] (W1 s) Q := by
  refine wpl_sl (n := 2) (pc' := 234) (ls' := [some (.ref 0), some (.ref 1), some (.long x2), none, some (.long x4), none, some (.long x6), none, some (.long x8), none, some (.int x10), some (.int x11), some (.int x12), none, some (.int x14), none, none, none, some (.int x18), some (.long x19), none, some (.int x21), some (.int x22), some (.int x23), some (.int x24), some (.int x25), none]) (st' := [.int (-1 : Int32), .int x23]) rfl ?_
  refine wpl_icmp (a := 333) (b := 237) rfl (by decide) rfl rfl (wpl_br (p := x23 = (-1 : Int32)) ⟨fun hc148 => ?_, fun hc148 => ?_⟩)
  · have h149 := h.1 hc148
    refine wpl_sl (n := 2) (pc' := 336) (ls' := [some (.ref 0), some (.ref 1), some (.long x2), none, some (.long x4), none, some (.long x6), none, some (.long x8), none, some (.int x10), some (.int x11), some (.int x12), none, some (.int x14), none, none, none, some (.int x18), some (.long x19), none, some (.int x21), some (.int x22), some (.int x23), some (.int x24), some (.int x25), none]) (st' := [.int x14, .ref 1]) rfl ?_
    refine wpl_v1 (m' := 11) (me' := cm11) (as := [.int x14]) (r := []) rfl rfl rfl rfl rfl ⟨by decide, (by first | decide | exact Nat.le_of_ble_eq_true rfl), (by first | decide | exact Nat.le_of_ble_eq_true rfl), rfl⟩ (cal_I (calI.mono h149 fun v152 s151 h153 => ?_))
    refine wpl_sl (n := 1) (pc' := 341) (ls' := [some (.ref 0), some (.ref 1), some (.long x2), none, some (.long x4), none, some (.long x6), none, some (.long x8), none, some (.int x10), some (.int x11), some (.int x12), none, some (.int x14), none, none, none, some (.int x18), some (.long x19), none, some (.int x21), some (.int x22), some (.int x23), some (.int x24), some (.int x25), none]) (st' := [.int x21, .int v152]) rfl ?_
    refine wpl_icmp (a := 355) (b := 344) rfl (by decide) rfl rfl (wpl_br (p := v152 = x21) ⟨fun hc154 => ?_, fun hc154 => ?_⟩)
    · have h155 := h153.1 hc154
      refine wpl_sl (n := 2) (pc' := 347) (ls' := [some (.ref 0), some (.ref 1), some (.long x2), none, some (.long x4), none, some (.long x6), none, some (.long x8), none, some (.int x10), some (.int x11), some (.int x12), none, some (.int x14), none, none, none, some (.int x18), some (.long x19), none, some (.int x21), some (.int x22), some (.int x23), some (.int x24), some (.int x25), none]) (st' := [.int x14, .ref 1]) rfl ?_
      refine wpl_v1 (m' := 16) (me' := cm16) (as := [.int x14]) (r := []) rfl rfl rfl rfl rfl ⟨by decide, (by first | decide | exact Nat.le_of_ble_eq_true rfl), (by first | decide | exact Nat.le_of_ble_eq_true rfl), rfl⟩ (cal_I (calI.mono h155 fun v158 s157 h159 => ?_))
      refine wpl_sl (n := 1) (pc' := 352) (ls' := [some (.ref 0), some (.ref 1), some (.long x2), none, some (.long x4), none, some (.long x6), none, some (.long x8), none, some (.int x10), some (.int x11), some (.int x12), none, some (.int x14), none, none, none, some (.int x18), some (.long x19), none, some (.int x21), some (.int x22), some (.int x23), some (.int x24), some (.int x25), none]) (st' := [.int x22, .int v158]) rfl ?_
      refine wpl_icmp (a := 357) (b := 355) rfl (by decide) rfl rfl (wpl_br (p := v158 = x22) ⟨fun hc160 => ?_, fun hc160 => ?_⟩)
      · have h161 := h159.1 hc160
        exact wpl_lle (ls := [some (.ref 0), some (.ref 1), some (.long x2), none, some (.long x4), none, some (.long x6), none, some (.long x8), none, some (.int x10), some (.int x11), some (.int x12), none, none, none, none, none, some (.int x18), some (.long x19), none, none, none, none, none, none, none]) ⟨rfl, rfl, rfl, rfl, rfl, rfl, rfl, rfl, rfl, rfl, rfl, trivial⟩ h161
      · have h162 := h159.2 hc160
        refine wpl_sl (n := 1) (pc' := 356) (ls' := [some (.ref 0), some (.ref 1), some (.long x2), none, some (.long x4), none, some (.long x6), none, some (.long x8), none, some (.int x10), some (.int x11), some (.int x12), none, some (.int x14), none, none, none, some (.int x18), some (.long x19), none, some (.int x21), some (.int x22), some (.int x23), some (.int x24), some (.int x25), none]) (st' := [.int (0 : Int32)]) rfl ?_
        exact wpl_ret rfl rfl rfl ⟨(0 : Int32), rfl, h162⟩
    · have h156 := h153.2 hc154
      refine wpl_sl (n := 1) (pc' := 356) (ls' := [some (.ref 0), some (.ref 1), some (.long x2), none, some (.long x4), none, some (.long x6), none, some (.long x8), none, some (.int x10), some (.int x11), some (.int x12), none, some (.int x14), none, none, none, some (.int x18), some (.long x19), none, some (.int x21), some (.int x22), some (.int x23), some (.int x24), some (.int x25), none]) (st' := [.int (0 : Int32)]) rfl ?_
      exact wpl_ret rfl rfl rfl ⟨(0 : Int32), rfl, h156⟩
  · have h150 := h.2 hc148
    refine wpl_sl (n := 2) (pc' := 241) (ls' := [some (.ref 0), some (.ref 1), some (.long x2), none, some (.long x4), none, some (.long x6), none, some (.long x8), none, some (.int x10), some (.int x11), some (.int x12), none, some (.int x14), none, none, none, some (.int x18), some (.long x19), none, some (.int x21), some (.int x22), some (.int x23), some (.int x24), some (.int x25), none]) (st' := [.int x10, .int x23]) rfl ?_
    refine wpl_icmp (a := 246) (b := 244) rfl (by decide) rfl rfl (wpl_br (p := x23 = x10) ⟨fun hc163 => ?_, fun hc163 => ?_⟩)
    · have h164 := h150.1 hc163
      refine wpl_sl (n := 5) (pc' := 257) (ls' := [some (.ref 0), some (.ref 1), some (.long x2), none, some (.long x4), none, some (.long x6), none, some (.long x8), none, some (.int (x10 + (1 : Int32))), some (.int (x11 + (1 : Int32))), some (.int x12), none, some (.int x14), none, none, none, some (.int x14), some (.long x19), none, some (.int x21), some (.int x22), some (.int x23), some (.int x24), some (.int x25), none]) (st' := [.long (1 : Int64)]) rfl ?_
      refine wpl_sl (n := 5) (pc' := 265) (ls' := [some (.ref 0), some (.ref 1), some (.long x2), none, some (.long x4), none, some (.long x6), none, some (.long x8), none, some (.int (x10 + (1 : Int32))), some (.int (x11 + (1 : Int32))), some (.int x12), none, some (.int x14), none, none, none, some (.int x14), some (.long ((1 : Int64) <<< ((x23).toInt64 &&& 63))), none, some (.int x21), some (.int x22), some (.int x23), some (.int x24), some (.int x25), none]) (st' := [.int x23, .ref 1]) rfl ?_
      refine wpl_sl (n := 1) (pc' := 266) (ls' := [some (.ref 0), some (.ref 1), some (.long x2), none, some (.long x4), none, some (.long x6), none, some (.long x8), none, some (.int (x10 + (1 : Int32))), some (.int (x11 + (1 : Int32))), some (.int x12), none, some (.int x14), none, none, none, some (.int x14), some (.long ((1 : Int64) <<< ((x23).toInt64 &&& 63))), none, some (.int x21), some (.int x22), some (.int x23), some (.int x24), some (.int x25), none]) (st' := [.int (0 : Int32), .int x23, .ref 1]) rfl ?_
      refine wpl_v1 (m' := 13) (me' := cm13) (as := [.int x23, .int (0 : Int32)]) (r := []) rfl rfl rfl rfl rfl ⟨by decide, (by first | decide | exact Nat.le_of_ble_eq_true rfl), (by first | decide | exact Nat.le_of_ble_eq_true rfl), rfl⟩ (cal_I (calI.mono h164 fun v167 s166 h168 => ?_))
      refine wpl_sl (n := 1) (pc' := 271) (ls' := [some (.ref 0), some (.ref 1), some (.long x2), none, some (.long x4), none, some (.long x6), none, some (.long x8), none, some (.int (x10 + (1 : Int32))), some (.int (x11 + (1 : Int32))), some (.int x12), none, some (.int x14), none, none, none, some (.int x14), some (.long ((1 : Int64) <<< ((x23).toInt64 &&& 63))), none, some (.int x21), some (.int x22), some (.int x23), some (.int x24), some (.int x25), none]) (st' := [.int x24, .int v167]) rfl ?_
      refine wpl_icmp (a := 286) (b := 274) rfl (by decide) rfl rfl (wpl_br (p := v167 = x24) ⟨fun hc169 => ?_, fun hc169 => ?_⟩)
      · have h170 := h168.1 hc169
        refine wpl_sl (n := 3) (pc' := 278) (ls' := [some (.ref 0), some (.ref 1), some (.long x2), none, some (.long x4), none, some (.long x6), none, some (.long x8), none, some (.int (x10 + (1 : Int32))), some (.int (x11 + (1 : Int32))), some (.int x12), none, some (.int x14), none, none, none, some (.int x14), some (.long ((1 : Int64) <<< ((x23).toInt64 &&& 63))), none, some (.int x21), some (.int x22), some (.int x23), some (.int x24), some (.int x25), none]) (st' := [.int (1 : Int32), .int x23, .ref 1]) rfl ?_
        refine wpl_v1 (m' := 13) (me' := cm13) (as := [.int x23, .int (1 : Int32)]) (r := []) rfl rfl rfl rfl rfl ⟨by decide, (by first | decide | exact Nat.le_of_ble_eq_true rfl), (by first | decide | exact Nat.le_of_ble_eq_true rfl), rfl⟩ (cal_I (calI.mono h170 fun v173 s172 h174 => ?_))
        refine wpl_sl (n := 1) (pc' := 283) (ls' := [some (.ref 0), some (.ref 1), some (.long x2), none, some (.long x4), none, some (.long x6), none, some (.long x8), none, some (.int (x10 + (1 : Int32))), some (.int (x11 + (1 : Int32))), some (.int x12), none, some (.int x14), none, none, none, some (.int x14), some (.long ((1 : Int64) <<< ((x23).toInt64 &&& 63))), none, some (.int x21), some (.int x22), some (.int x23), some (.int x24), some (.int x25), none]) (st' := [.int x14, .int v173]) rfl ?_
        refine wpl_icmp (a := 288) (b := 286) rfl (by decide) rfl rfl (wpl_br (p := v173 = x14) ⟨fun hc175 => ?_, fun hc175 => ?_⟩)
        · have h176 := h174.1 hc175
          refine wpl_sl (n := 3) (pc' := 292) (ls' := [some (.ref 0), some (.ref 1), some (.long x2), none, some (.long x4), none, some (.long x6), none, some (.long x8), none, some (.int (x10 + (1 : Int32))), some (.int (x11 + (1 : Int32))), some (.int x12), none, some (.int x14), none, none, none, some (.int x14), some (.long ((1 : Int64) <<< ((x23).toInt64 &&& 63))), none, some (.int x21), some (.int x22), some (.int x23), some (.int x24), some (.int x25), none]) (st' := [.int (2 : Int32), .int x23, .ref 1]) rfl ?_
          refine wpl_v1 (m' := 13) (me' := cm13) (as := [.int x23, .int (2 : Int32)]) (r := []) rfl rfl rfl rfl rfl ⟨by decide, (by first | decide | exact Nat.le_of_ble_eq_true rfl), (by first | decide | exact Nat.le_of_ble_eq_true rfl), rfl⟩ (cal_I (calI.mono h176 fun v179 s178 h180 => ?_))
          refine wpl_sl (n := 3) (pc' := 299) (ls' := [some (.ref 0), some (.ref 1), some (.long x2), none, some (.long x4), none, some (.long x6), none, some (.long x8), none, some (.int (x10 + (1 : Int32))), some (.int (x11 + (1 : Int32))), some (.int x12), none, some (.int x14), none, none, none, some (.int x14), some (.long ((1 : Int64) <<< ((x23).toInt64 &&& 63))), none, some (.int x21), some (.int x22), some (.int x23), some (.int x24), some (.int x25), none]) (st' := [.int (x22 + (1 : Int32)), .int v179]) rfl ?_
          refine wpl_icmp (a := 316) (b := 302) rfl (by decide) rfl rfl (wpl_br (p := v179 = (x22 + (1 : Int32))) ⟨fun hc181 => ?_, fun hc181 => ?_⟩)
          · have h182 := h180.1 hc181
            refine wpl_sl (n := 2) (pc' := 305) (ls' := [some (.ref 0), some (.ref 1), some (.long x2), none, some (.long x4), none, some (.long x6), none, some (.long x8), none, some (.int (x10 + (1 : Int32))), some (.int (x11 + (1 : Int32))), some (.int x12), none, some (.int x14), none, none, none, some (.int x14), some (.long ((1 : Int64) <<< ((x23).toInt64 &&& 63))), none, some (.int x21), some (.int x22), some (.int x23), some (.int x24), some (.int x25), none]) (st' := [.int x14, .ref 1]) rfl ?_
            refine wpl_v1 (m' := 11) (me' := cm11) (as := [.int x14]) (r := []) rfl rfl rfl rfl rfl ⟨by decide, (by first | decide | exact Nat.le_of_ble_eq_true rfl), (by first | decide | exact Nat.le_of_ble_eq_true rfl), rfl⟩ (cal_I (calI.mono h182 fun v185 s184 h186 => ?_))
            refine wpl_sl (n := 3) (pc' := 313) (ls' := [some (.ref 0), some (.ref 1), some (.long x2), none, some (.long x4), none, some (.long x6), none, some (.long x8), none, some (.int (x10 + (1 : Int32))), some (.int (x11 + (1 : Int32))), some (.int x12), none, some (.int x14), none, none, none, some (.int x14), some (.long ((1 : Int64) <<< ((x23).toInt64 &&& 63))), none, some (.int x21), some (.int x22), some (.int x23), some (.int x24), some (.int x25), none]) (st' := [.int (x21 + x25), .int v185]) rfl ?_
            refine wpl_icmp (a := 318) (b := 316) rfl (by decide) rfl rfl (wpl_br (p := v185 = (x21 + x25)) ⟨fun hc187 => ?_, fun hc187 => ?_⟩)
            · have h188 := h186.1 hc187
              refine wpl_sl (n := 4) (pc' := 323) (ls' := [some (.ref 0), some (.ref 1), some (.long x2), none, some (.long x4), none, some (.long x6), none, some (.long x8), none, some (.int (x10 + (1 : Int32))), some (.int (x11 + (1 : Int32))), some (.int x12), none, some (.int x14), none, none, none, some (.int x14), some (.long ((1 : Int64) <<< ((x23).toInt64 &&& 63))), none, some (.int x21), some (.int x22), some (.int x23), some (.int x24), some (.int x25), none]) (st' := [.int ((x11 + (1 : Int32)) - (1 : Int32)), .ref 1]) rfl ?_
              refine wpl_v1 (m' := 15) (me' := cm15) (as := [.int ((x11 + (1 : Int32)) - (1 : Int32))]) (r := []) rfl rfl rfl rfl rfl ⟨by decide, (by first | decide | exact Nat.le_of_ble_eq_true rfl), (by first | decide | exact Nat.le_of_ble_eq_true rfl), rfl⟩ (cal_I (calI.mono h188 fun v191 s190 h192 => ?_))
              refine wpl_sl (n := 1) (pc' := 328) (ls' := [some (.ref 0), some (.ref 1), some (.long x2), none, some (.long x4), none, some (.long x6), none, some (.long x8), none, some (.int (x10 + (1 : Int32))), some (.int (x11 + (1 : Int32))), some (.int x12), none, some (.int x14), none, none, none, some (.int x14), some (.long ((1 : Int64) <<< ((x23).toInt64 &&& 63))), none, some (.int x21), some (.int x22), some (.int x23), some (.int x24), some (.int x25), none]) (st' := [.int x23, .int v191]) rfl ?_
              refine wpl_icmp (a := 357) (b := 331) rfl (by decide) rfl rfl (wpl_br (p := v191 = x23) ⟨fun hc193 => ?_, fun hc193 => ?_⟩)
              · have h194 := h192.1 hc193
                exact wpl_lle (ls := [some (.ref 0), some (.ref 1), some (.long x2), none, some (.long x4), none, some (.long x6), none, some (.long x8), none, some (.int (x10 + (1 : Int32))), some (.int (x11 + (1 : Int32))), some (.int x12), none, none, none, none, none, some (.int x14), some (.long ((1 : Int64) <<< ((x23).toInt64 &&& 63))), none, none, none, none, none, none, none]) ⟨rfl, rfl, rfl, rfl, rfl, rfl, rfl, rfl, rfl, rfl, rfl, trivial⟩ h194
              · have h195 := h192.2 hc193
                refine wpl_sl (n := 1) (pc' := 332) (ls' := [some (.ref 0), some (.ref 1), some (.long x2), none, some (.long x4), none, some (.long x6), none, some (.long x8), none, some (.int (x10 + (1 : Int32))), some (.int (x11 + (1 : Int32))), some (.int x12), none, some (.int x14), none, none, none, some (.int x14), some (.long ((1 : Int64) <<< ((x23).toInt64 &&& 63))), none, some (.int x21), some (.int x22), some (.int x23), some (.int x24), some (.int x25), none]) (st' := [.int (0 : Int32)]) rfl ?_
                exact wpl_ret rfl rfl rfl ⟨(0 : Int32), rfl, h195⟩
            · have h189 := h186.2 hc187
              refine wpl_sl (n := 1) (pc' := 317) (ls' := [some (.ref 0), some (.ref 1), some (.long x2), none, some (.long x4), none, some (.long x6), none, some (.long x8), none, some (.int (x10 + (1 : Int32))), some (.int (x11 + (1 : Int32))), some (.int x12), none, some (.int x14), none, none, none, some (.int x14), some (.long ((1 : Int64) <<< ((x23).toInt64 &&& 63))), none, some (.int x21), some (.int x22), some (.int x23), some (.int x24), some (.int x25), none]) (st' := [.int (0 : Int32)]) rfl ?_
              exact wpl_ret rfl rfl rfl ⟨(0 : Int32), rfl, h189⟩
          · have h183 := h180.2 hc181
            refine wpl_sl (n := 1) (pc' := 317) (ls' := [some (.ref 0), some (.ref 1), some (.long x2), none, some (.long x4), none, some (.long x6), none, some (.long x8), none, some (.int (x10 + (1 : Int32))), some (.int (x11 + (1 : Int32))), some (.int x12), none, some (.int x14), none, none, none, some (.int x14), some (.long ((1 : Int64) <<< ((x23).toInt64 &&& 63))), none, some (.int x21), some (.int x22), some (.int x23), some (.int x24), some (.int x25), none]) (st' := [.int (0 : Int32)]) rfl ?_
            exact wpl_ret rfl rfl rfl ⟨(0 : Int32), rfl, h183⟩
        · have h177 := h174.2 hc175
          refine wpl_sl (n := 1) (pc' := 287) (ls' := [some (.ref 0), some (.ref 1), some (.long x2), none, some (.long x4), none, some (.long x6), none, some (.long x8), none, some (.int (x10 + (1 : Int32))), some (.int (x11 + (1 : Int32))), some (.int x12), none, some (.int x14), none, none, none, some (.int x14), some (.long ((1 : Int64) <<< ((x23).toInt64 &&& 63))), none, some (.int x21), some (.int x22), some (.int x23), some (.int x24), some (.int x25), none]) (st' := [.int (0 : Int32)]) rfl ?_
          exact wpl_ret rfl rfl rfl ⟨(0 : Int32), rfl, h177⟩
      · have h171 := h168.2 hc169
        refine wpl_sl (n := 1) (pc' := 287) (ls' := [some (.ref 0), some (.ref 1), some (.long x2), none, some (.long x4), none, some (.long x6), none, some (.long x8), none, some (.int (x10 + (1 : Int32))), some (.int (x11 + (1 : Int32))), some (.int x12), none, some (.int x14), none, none, none, some (.int x14), some (.long ((1 : Int64) <<< ((x23).toInt64 &&& 63))), none, some (.int x21), some (.int x22), some (.int x23), some (.int x24), some (.int x25), none]) (st' := [.int (0 : Int32)]) rfl ?_
        exact wpl_ret rfl rfl rfl ⟨(0 : Int32), rfl, h171⟩
    · have h165 := h150.2 hc163
      refine wpl_sl (n := 1) (pc' := 245) (ls' := [some (.ref 0), some (.ref 1), some (.long x2), none, some (.long x4), none, some (.long x6), none, some (.long x8), none, some (.int x10), some (.int x11), some (.int x12), none, some (.int x14), none, none, none, some (.int x18), some (.long x19), none, some (.int x21), some (.int x22), some (.int x23), some (.int x24), some (.int x25), none]) (st' := [.int (0 : Int32)]) rfl ?_
      exact wpl_ret rfl rfl rfl ⟨(0 : Int32), rfl, h165⟩
theorem l0_700 (N : Nat) (sg : Nat → Int32) (x2 : Int64) (x4 : Int64) (x6 : Int64) (x8 : Int64) (x10 : Int32) (x11 : Int32) (x12 : Int32) (x21 : Int32)  (Q : Int32 → Wd → Prop) (h : ((x21 < x11) → calI PP 15 16 [.ref 0, .int x21] s (fun v200 s199 => ((v200 < (0 : Int32)) → Q (0 : Int32) (W1 s199)) ∧ (¬ (v200 < (0 : Int32)) → ((v200 < x10) → wplI PP QQ (some (N, sg)) 0 lm0 700 [some (.ref 0), some (.ref 1), some (.long x2), none, some (.long x4), none, some (.long x6), none, some (.long x8), none, some (.int x10), some (.int x11), some (.int x12), none, none, none, none, none, none, none, none, some (.int (x21 + (1 : Int32))), none, none, none, none, none] [] (W1 s199) Q) ∧ (¬ (v200 < x10) → Q (0 : Int32) (W1 s199))))) ∧ (¬ (x21 < x11) → lalI PP QQ (some (N, sg)) 5 [.ref 1, .int (0 : Int32), .long x2, .int x10] (W1 s) (fun v209 w208 => ∃ s211, w208 = W1 s211 ∧ (((v209 = (0 : Int32)) → Q (0 : Int32) (W1 s211)) ∧ (¬ (v209 = (0 : Int32)) → lalI PP QQ (some (N, sg)) 5 [.ref 1, .int (1 : Int32), .long x4, .int x10] (W1 s211) (fun v216 w215 => ∃ s218, w215 = W1 s218 ∧ (((v216 = (0 : Int32)) → Q (0 : Int32) (W1 s218)) ∧ (¬ (v216 = (0 : Int32)) → lalI PP QQ (some (N, sg)) 5 [.ref 1, .int (2 : Int32), .long x6, .int x10] (W1 s218) (fun v223 w222 => ∃ s225, w222 = W1 s225 ∧ (((v223 = (0 : Int32)) → Q (0 : Int32) (W1 s225)) ∧ (¬ (v223 = (0 : Int32)) → lalI PP QQ (some (N, sg)) 5 [.ref 1, .int (3 : Int32), .long x8, .int x10] (W1 s225) (fun v230 w229 => ∃ s232, w229 = W1 s232 ∧ (((v230 = (0 : Int32)) → Q (0 : Int32) (W1 s232)) ∧ (¬ (v230 = (0 : Int32)) → wplI PP QQ (some (N, sg)) 0 lm0 34 [some (.ref 0), some (.ref 1), some (.long x2), none, some (.long x4), none, some (.long x6), none, some (.long x8), none, some (.int x10), some (.int x11), some (.int (x12 + (4 : Int32))), none, none, none, none, none, none, none, none, none, none, none, none, none, none] [] (W1 s232) Q)))))))))))))) : wplI PP QQ (some (N, sg)) 0 lm0 700 [some (.ref 0), some (.ref 1), some (.long x2), none, some (.long x4), none, some (.long x6), none, some (.long x8), none, some (.int x10), some (.int x11), some (.int x12), none, none, none, none, none, none, none, none, some (.int x21), none, none, none, none, none] [] (W1 s) Q := by
  refine wpl_sl (n := 2) (pc' := 704) (ls' := [some (.ref 0), some (.ref 1), some (.long x2), none, some (.long x4), none, some (.long x6), none, some (.long x8), none, some (.int x10), some (.int x11), some (.int x12), none, none, none, none, none, none, none, none, some (.int x21), none, none, none, none, none]) (st' := [.int x11, .int x21]) rfl ?_
  refine wpl_icmp (a := 735) (b := 707) rfl (by decide) rfl rfl (wpl_br (p := x21 < x11) ⟨fun hc196 => ?_, fun hc196 => ?_⟩)
  · have h197 := h.1 hc196
    refine wpl_sl (n := 2) (pc' := 710) (ls' := [some (.ref 0), some (.ref 1), some (.long x2), none, some (.long x4), none, some (.long x6), none, some (.long x8), none, some (.int x10), some (.int x11), some (.int x12), none, none, none, none, none, none, none, none, some (.int x21), none, none, none, none, none]) (st' := [.int x21, .ref 1]) rfl ?_
    refine wpl_v1 (m' := 15) (me' := cm15) (as := [.int x21]) (r := []) rfl rfl rfl rfl rfl ⟨by decide, (by first | decide | exact Nat.le_of_ble_eq_true rfl), (by first | decide | exact Nat.le_of_ble_eq_true rfl), rfl⟩ (cal_I (calI.mono h197 fun v200 s199 h201 => ?_))
    refine wpl_sl (n := 2) (pc' := 717) (ls' := [some (.ref 0), some (.ref 1), some (.long x2), none, some (.long x4), none, some (.long x6), none, some (.long x8), none, some (.int x10), some (.int x11), some (.int x12), none, none, none, none, none, none, none, none, some (.int x21), some (.int v200), none, none, none, none]) (st' := [.int v200]) rfl ?_
    refine wpl_if (a := 727) (b := 720) rfl (by decide) rfl rfl (wpl_br (p := v200 < (0 : Int32)) ⟨fun hc202 => ?_, fun hc202 => ?_⟩)
    · have h203 := h201.1 hc202
      refine wpl_sl (n := 1) (pc' := 728) (ls' := [some (.ref 0), some (.ref 1), some (.long x2), none, some (.long x4), none, some (.long x6), none, some (.long x8), none, some (.int x10), some (.int x11), some (.int x12), none, none, none, none, none, none, none, none, some (.int x21), some (.int v200), none, none, none, none]) (st' := [.int (0 : Int32)]) rfl ?_
      exact wpl_ret rfl rfl rfl ⟨(0 : Int32), rfl, h203⟩
    · have h204 := h201.2 hc202
      refine wpl_sl (n := 2) (pc' := 724) (ls' := [some (.ref 0), some (.ref 1), some (.long x2), none, some (.long x4), none, some (.long x6), none, some (.long x8), none, some (.int x10), some (.int x11), some (.int x12), none, none, none, none, none, none, none, none, some (.int x21), some (.int v200), none, none, none, none]) (st' := [.int x10, .int v200]) rfl ?_
      refine wpl_icmp (a := 729) (b := 727) rfl (by decide) rfl rfl (wpl_br (p := v200 < x10) ⟨fun hc205 => ?_, fun hc205 => ?_⟩)
      · have h206 := h204.1 hc205
        refine wpl_sl (n := 2) (pc' := 700) (ls' := [some (.ref 0), some (.ref 1), some (.long x2), none, some (.long x4), none, some (.long x6), none, some (.long x8), none, some (.int x10), some (.int x11), some (.int x12), none, none, none, none, none, none, none, none, some (.int (x21 + (1 : Int32))), some (.int v200), none, none, none, none]) (st' := []) rfl ?_
        exact wpl_lle (ls := [some (.ref 0), some (.ref 1), some (.long x2), none, some (.long x4), none, some (.long x6), none, some (.long x8), none, some (.int x10), some (.int x11), some (.int x12), none, none, none, none, none, none, none, none, some (.int (x21 + (1 : Int32))), none, none, none, none, none]) ⟨rfl, rfl, rfl, rfl, rfl, rfl, rfl, rfl, rfl, rfl, trivial⟩ h206
      · have h207 := h204.2 hc205
        refine wpl_sl (n := 1) (pc' := 728) (ls' := [some (.ref 0), some (.ref 1), some (.long x2), none, some (.long x4), none, some (.long x6), none, some (.long x8), none, some (.int x10), some (.int x11), some (.int x12), none, none, none, none, none, none, none, none, some (.int x21), some (.int v200), none, none, none, none]) (st' := [.int (0 : Int32)]) rfl ?_
        exact wpl_ret rfl rfl rfl ⟨(0 : Int32), rfl, h207⟩
  · have h198 := h.2 hc196
    refine wpl_sl (n := 4) (pc' := 740) (ls' := [some (.ref 0), some (.ref 1), some (.long x2), none, some (.long x4), none, some (.long x6), none, some (.long x8), none, some (.int x10), some (.int x11), some (.int x12), none, none, none, none, none, none, none, none, some (.int x21), none, none, none, none, none]) (st' := [.int x10, .long x2, .int (0 : Int32), .ref 1]) rfl ?_
    refine wpl_stat (m' := 5) (me' := lm5) (as := [.ref 1, .int (0 : Int32), .long x2, .int x10]) (r := []) rfl rfl rfl rfl rfl ⟨(by first | decide | exact Nat.le_of_ble_eq_true rfl), (by first | decide | exact Nat.le_of_ble_eq_true rfl), (by first | decide | exact Nat.le_of_ble_eq_true rfl), (by first | decide | exact Nat.le_of_ble_eq_true rfl), rfl⟩ (lal_I (lalI.mono h198 fun v209 w208 hh => ?_))
    obtain ⟨s211, rfl, h210⟩ := hh
    refine wpl_if (a := 758) (b := 746) rfl (by decide) rfl rfl (wpl_br (p := v209 = (0 : Int32)) ⟨fun hc212 => ?_, fun hc212 => ?_⟩)
    · have h213 := h210.1 hc212
      refine wpl_sl (n := 1) (pc' := 759) (ls' := [some (.ref 0), some (.ref 1), some (.long x2), none, some (.long x4), none, some (.long x6), none, some (.long x8), none, some (.int x10), some (.int x11), some (.int x12), none, none, none, none, none, none, none, none, some (.int x21), none, none, none, none, none]) (st' := [.int (0 : Int32)]) rfl ?_
      exact wpl_ret rfl rfl rfl ⟨(0 : Int32), rfl, h213⟩
    · have h214 := h210.2 hc212
      refine wpl_sl (n := 4) (pc' := 752) (ls' := [some (.ref 0), some (.ref 1), some (.long x2), none, some (.long x4), none, some (.long x6), none, some (.long x8), none, some (.int x10), some (.int x11), some (.int x12), none, none, none, none, none, none, none, none, some (.int x21), none, none, none, none, none]) (st' := [.int x10, .long x4, .int (1 : Int32), .ref 1]) rfl ?_
      refine wpl_stat (m' := 5) (me' := lm5) (as := [.ref 1, .int (1 : Int32), .long x4, .int x10]) (r := []) rfl rfl rfl rfl rfl ⟨(by first | decide | exact Nat.le_of_ble_eq_true rfl), (by first | decide | exact Nat.le_of_ble_eq_true rfl), (by first | decide | exact Nat.le_of_ble_eq_true rfl), (by first | decide | exact Nat.le_of_ble_eq_true rfl), rfl⟩ (lal_I (lalI.mono h214 fun v216 w215 hh => ?_))
      obtain ⟨s218, rfl, h217⟩ := hh
      refine wpl_if (a := 760) (b := 758) rfl (by decide) rfl rfl (wpl_br (p := v216 = (0 : Int32)) ⟨fun hc219 => ?_, fun hc219 => ?_⟩)
      · have h220 := h217.1 hc219
        refine wpl_sl (n := 1) (pc' := 759) (ls' := [some (.ref 0), some (.ref 1), some (.long x2), none, some (.long x4), none, some (.long x6), none, some (.long x8), none, some (.int x10), some (.int x11), some (.int x12), none, none, none, none, none, none, none, none, some (.int x21), none, none, none, none, none]) (st' := [.int (0 : Int32)]) rfl ?_
        exact wpl_ret rfl rfl rfl ⟨(0 : Int32), rfl, h220⟩
      · have h221 := h217.2 hc219
        refine wpl_sl (n := 4) (pc' := 766) (ls' := [some (.ref 0), some (.ref 1), some (.long x2), none, some (.long x4), none, some (.long x6), none, some (.long x8), none, some (.int x10), some (.int x11), some (.int x12), none, none, none, none, none, none, none, none, some (.int x21), none, none, none, none, none]) (st' := [.int x10, .long x6, .int (2 : Int32), .ref 1]) rfl ?_
        refine wpl_stat (m' := 5) (me' := lm5) (as := [.ref 1, .int (2 : Int32), .long x6, .int x10]) (r := []) rfl rfl rfl rfl rfl ⟨(by first | decide | exact Nat.le_of_ble_eq_true rfl), (by first | decide | exact Nat.le_of_ble_eq_true rfl), (by first | decide | exact Nat.le_of_ble_eq_true rfl), (by first | decide | exact Nat.le_of_ble_eq_true rfl), rfl⟩ (lal_I (lalI.mono h221 fun v223 w222 hh => ?_))
        obtain ⟨s225, rfl, h224⟩ := hh
        refine wpl_if (a := 784) (b := 772) rfl (by decide) rfl rfl (wpl_br (p := v223 = (0 : Int32)) ⟨fun hc226 => ?_, fun hc226 => ?_⟩)
        · have h227 := h224.1 hc226
          refine wpl_sl (n := 1) (pc' := 785) (ls' := [some (.ref 0), some (.ref 1), some (.long x2), none, some (.long x4), none, some (.long x6), none, some (.long x8), none, some (.int x10), some (.int x11), some (.int x12), none, none, none, none, none, none, none, none, some (.int x21), none, none, none, none, none]) (st' := [.int (0 : Int32)]) rfl ?_
          exact wpl_ret rfl rfl rfl ⟨(0 : Int32), rfl, h227⟩
        · have h228 := h224.2 hc226
          refine wpl_sl (n := 4) (pc' := 778) (ls' := [some (.ref 0), some (.ref 1), some (.long x2), none, some (.long x4), none, some (.long x6), none, some (.long x8), none, some (.int x10), some (.int x11), some (.int x12), none, none, none, none, none, none, none, none, some (.int x21), none, none, none, none, none]) (st' := [.int x10, .long x8, .int (3 : Int32), .ref 1]) rfl ?_
          refine wpl_stat (m' := 5) (me' := lm5) (as := [.ref 1, .int (3 : Int32), .long x8, .int x10]) (r := []) rfl rfl rfl rfl rfl ⟨(by first | decide | exact Nat.le_of_ble_eq_true rfl), (by first | decide | exact Nat.le_of_ble_eq_true rfl), (by first | decide | exact Nat.le_of_ble_eq_true rfl), (by first | decide | exact Nat.le_of_ble_eq_true rfl), rfl⟩ (lal_I (lalI.mono h228 fun v230 w229 hh => ?_))
          obtain ⟨s232, rfl, h231⟩ := hh
          refine wpl_if (a := 786) (b := 784) rfl (by decide) rfl rfl (wpl_br (p := v230 = (0 : Int32)) ⟨fun hc233 => ?_, fun hc233 => ?_⟩)
          · have h234 := h231.1 hc233
            refine wpl_sl (n := 1) (pc' := 785) (ls' := [some (.ref 0), some (.ref 1), some (.long x2), none, some (.long x4), none, some (.long x6), none, some (.long x8), none, some (.int x10), some (.int x11), some (.int x12), none, none, none, none, none, none, none, none, some (.int x21), none, none, none, none, none]) (st' := [.int (0 : Int32)]) rfl ?_
            exact wpl_ret rfl rfl rfl ⟨(0 : Int32), rfl, h234⟩
          · have h235 := h231.2 hc233
            refine wpl_sl (n := 2) (pc' := 34) (ls' := [some (.ref 0), some (.ref 1), some (.long x2), none, some (.long x4), none, some (.long x6), none, some (.long x8), none, some (.int x10), some (.int x11), some (.int (x12 + (4 : Int32))), none, none, none, none, none, none, none, none, some (.int x21), none, none, none, none, none]) (st' := []) rfl ?_
            exact wpl_lle (ls := [some (.ref 0), some (.ref 1), some (.long x2), none, some (.long x4), none, some (.long x6), none, some (.long x8), none, some (.int x10), some (.int x11), some (.int (x12 + (4 : Int32))), none, none, none, none, none, none, none, none, none, none, none, none, none, none]) ⟨rfl, rfl, rfl, rfl, rfl, rfl, rfl, rfl, rfl, trivial⟩ h235
theorem l0_357 (N : Nat) (sg : Nat → Int32) (x2 : Int64) (x4 : Int64) (x6 : Int64) (x8 : Int64) (x10 : Int32) (x11 : Int32) (x12 : Int32) (x18 : Int32) (x19 : Int64)  (Q : Int32 → Wd → Prop) (h : wplI PP QQ (some (N, sg)) 0 lm0 619 [some (.ref 0), some (.ref 1), some (.long x2), none, some (.long x4), none, some (.long x6), none, some (.long x8), none, some (.int x10), some (.int x11), some (.int x12), none, none, none, none, none, some (.int x18), some (.long x19), none, none, none, none, none, none, none] [] (W1 s) Q) : wplI PP QQ (some (N, sg)) 0 lm0 357 [some (.ref 0), some (.ref 1), some (.long x2), none, some (.long x4), none, some (.long x6), none, some (.long x8), none, some (.int x10), some (.int x11), some (.int x12), none, none, none, none, none, some (.int x18), some (.long x19), none, none, none, none, none, none, none] [] (W1 s) Q := by
  refine wpl_sl (n := 1) (pc' := 619) (ls' := [some (.ref 0), some (.ref 1), some (.long x2), none, some (.long x4), none, some (.long x6), none, some (.long x8), none, some (.int x10), some (.int x11), some (.int x12), none, none, none, none, none, some (.int x18), some (.long x19), none, none, none, none, none, none, none]) (st' := []) rfl ?_
  exact h
theorem own_clamp (x lo hi : Int32) (s : St) (Q : Int32 → St → Prop) (h : Q (if x < lo then lo else if hi < x then hi else x) s) : calI PP 51 16 [.ref 0, .int x, .int lo, .int hi] s Q := by
  apply c51_in
  refine ⟨fun a => ?_, fun a => ⟨fun b => ?_, fun b => ?_⟩⟩
  · rw [if_pos a] at h; exact h
  · rw [if_neg a, if_pos b] at h; exact h
  · rw [if_neg a, if_neg b] at h; exact h
theorem own_cl_rng {x lo hi m : Int32} (h : lo.toInt ≤ hi.toInt) (e : m = if x < lo then lo else if hi < x then hi else x) : lo.toInt ≤ m.toInt ∧ m.toInt ≤ hi.toInt := by
  subst e
  split
  · omega
  · split
    · omega
    · simp only [i32_lt] at *; omega
theorem own_ix {r x : Int32} (hr : 0 ≤ r.toInt ∧ r.toInt < 4) (hx : 0 ≤ x.toInt ∧ x.toInt < 64) : (r * 64 + x).toInt = r.toInt * 64 + x.toInt ∧ inb 256 (r * 64 + x) ∧ ix (r * 64 + x) = 64 * ix r + ix x := by
  have e1 : (r * 64).toInt = r.toInt * 64 := by rw [i32_mul] <;> simp <;> omega
  have e2 : (r * 64 + x).toInt = r.toInt * 64 + x.toInt := by rw [i32_add, e1] <;> rw [e1] <;> omega
  have a := ix_int hr.1
  have b := ix_int hx.1
  have c := ix_int (i := r * 64 + x) (by omega)
  exact ⟨e2, ⟨by omega, by show _ < (256 : Int); omega⟩, by omega⟩
theorem own_ix4 {w i : Int32} (hw : 0 ≤ w.toInt ∧ w.toInt < 256) (hi : 0 ≤ i.toInt ∧ i.toInt < 4) : (w * 4 + i).toInt = w.toInt * 4 + i.toInt := by
  have e1 : (w * 4).toInt = w.toInt * 4 := by rw [i32_mul] <;> simp <;> omega
  rw [i32_add, e1] <;> rw [e1] <;> omega
theorem own_two (x : Int32) (h : -2147483000 ≤ x.toInt ∧ x.toInt < 2147483000) : (x + 2).toInt = x.toInt + 2 := by rw [i32_add] <;> simp <;> omega
/-- resetReplica -/
theorem own_39 (s : St) (r N : Int32) (hr : 0 ≤ r.toInt ∧ r.toInt < 4) (hN : 8 ≤ N.toInt ∧ N.toInt ≤ 64) (h28 : gI s 0 28 = N) (Q : St → Prop)
    (h : ∀ t, (∀ c j, c ≠ 10 → c ≠ 11 → c ≠ 15 → gI t c j = gI s c j) → (∀ j, gI t 10 j = if j = ix r then 0 else gI s 10 j) → (∀ j, j ≠ ix r → gI t 11 j = gI s 11 j) → (gI t 11 (ix r)).toInt = (N.toInt + 1) / 2 → (∀ j, (j < 64 * ix r ∨ 64 * ix r + 64 ≤ j) → gI t 15 j = gI s 15 j) → (∀ i : Nat, 2 * (i : Int) < N.toInt → (gI t 15 (64 * ix r + i)).toInt = 2 * i) → Q t) : calV PP 39 16 [.ref 0, .int r] s Q := by
  have rb : inb 4 r := hr
  apply c39_in
  refine ⟨rb, ?_⟩
  have key : ∀ (n : Nat) (x y : Int32) (u : St), 0 ≤ x.toInt → y.toInt = 2 * x.toInt → x.toInt + n = (N.toInt + 1) / 2 → (∀ c j, c ≠ 15 → gI u c j = gI (sI s 10 (ix r) 0) c j) → (∀ j, (j < 64 * ix r ∨ 64 * ix r + 64 ≤ j) → gI u 15 j = gI s 15 j) → (∀ i : Nat, (i : Int) < x.toInt → (gI u 15 (64 * ix r + i)).toInt = 2 * i) → wpcV PP 39 cm39 16 11 [some (.ref 0), some (.int r), some (.int x), some (.int y)] [] u Q := by
    intro n
    induction n with
    | zero =>
      intro x y u x0 xy xn ua ub uc
      have u28 : gI u 0 28 = N := by rw [ua 0 _ (by decide), gI_sI, if_neg (by omega), h28]
      refine c39_11 _ _ _ _ _ ⟨fun q => absurd q (by rw [u28, i32_lt]; omega), fun _ => ⟨rb, h _ (fun c j c1 c2 c3 => ?_) (fun j => ?_) (fun j hj => ?_) ?_ (fun j hj => ?_) (fun i hi => ?_)⟩⟩
      · rw [gI_sI, if_neg (fun k => c2 k.1), ua c j c3, gI_sI, if_neg (fun k => c1 k.1)]
      · rw [gI_sI, if_neg (by omega), ua 10 j (by decide), gI_sI]; simp
      · rw [gI_sI, if_neg (fun k => hj k.2), ua 11 j (by decide), gI_sI, if_neg (by omega)]
      · rw [gI_sI, if_pos ⟨rfl, rfl⟩]; omega
      · rw [gI_sI, if_neg (by omega)]; exact ub j hj
      · rw [gI_sI, if_neg (by omega)]; exact uc i (by omega)
    | succ n ih =>
      intro x y u x0 xy xn ua ub uc
      have u28 : gI u 0 28 = N := by rw [ua 0 _ (by decide), gI_sI, if_neg (by omega), h28]
      have e1 : (x + 1).toInt = x.toInt + 1 := by rw [i32_add] <;> simp <;> omega
      have e2 := own_two y (by omega)
      obtain ⟨f1, f2, f3⟩ := own_ix hr (x := x) (by omega)
      have xi := ix_int x0
      refine c39_11 _ _ _ _ _ ⟨fun _ => c49_in _ _ _ _ ⟨f2, ih (x + 1) (y + 2) _ (by omega) (by omega) (by omega) (fun c j c3 => ?_) (fun j hj => ?_) (fun i hi => ?_)⟩, fun q => absurd (by rw [u28, i32_lt]; omega) q⟩
      · rw [gI_sI, if_neg (fun k => c3 k.1), ua c j c3]
      · rw [gI_sI, if_neg (by omega)]; exact ub j hj
      · rw [gI_sI]
        by_cases w : (i : Int) = x.toInt
        · rw [if_pos ⟨rfl, by omega⟩]; omega
        · rw [if_neg (by omega)]; exact uc i (by omega)
  exact key ((N.toInt + 1) / 2).toNat 0 0 _ (by decide) (by decide) (by show (0 : Int) + _ = _; omega) (fun _ _ _ => rfl) (fun j hj => by rw [gI_sI, if_neg (by omega)]) (fun i hi => absurd hi (by show ¬ _ < (0 : Int); omega))
/-- the state after the constructor -/
def own_Z (N M P : Int32) (s : St) : Prop := gI s 0 28 = N ∧ gI s 0 29 = M ∧ gI s 0 30 = P ∧ gI s 0 31 = 0 ∧ gI s 0 40 = 0 ∧ (∀ r, r < 4 → gI s 10 r = 0) ∧ (∀ r, r < 4 → (gI s 11 r).toInt = (N.toInt + 1) / 2) ∧ (∀ r, r < 4 → ∀ i : Nat, 2 * (i : Int) < N.toInt → (gI s 15 (64 * r + i)).toInt = 2 * i) ∧ (∀ c j, (1 ≤ c ∧ c ≤ 9 ∨ 12 ≤ c ∧ c ≤ 14 ∨ c = 16) → gI s c j = 0)
theorem own_0 (x y z : Int32) (Q : St → Prop) (h : ∀ N M P t, N = (if x < 8 then 8 else if 64 < x then 64 else x) → M = (if y < 8 then 8 else if 64 < y then 64 else y) → P = (if z < 8 then 8 else if 32 < z then 32 else z) → (8 ≤ N.toInt ∧ N.toInt ≤ 64) → (8 ≤ M.toInt ∧ M.toInt ≤ 64) → (8 ≤ P.toInt ∧ P.toInt ≤ 32) → own_Z N M P t → Q t) : calV PP 0 0 [.ref 0, .int x, .int y, .int z] s0 Q := by
  apply c0_in
  apply own_clamp
  apply own_clamp
  apply own_clamp
  generalize eN : (if x < 8 then (8 : Int32) else if 64 < x then 64 else x) = N
  generalize eM : (if y < 8 then (8 : Int32) else if 64 < y then 64 else y) = M
  generalize eP : (if z < 8 then (8 : Int32) else if 32 < z then 32 else z) = P
  have rN := own_cl_rng (by decide) eN.symm
  have rM := own_cl_rng (by decide) eM.symm
  have rP := own_cl_rng (by decide) eP.symm
  simp at rN rM rP
  replace h := fun t => h N M P t eN.symm eM.symm eP.symm rN rM rP
  generalize hS : sI (sI (sI (sI (sI (sI (sI s0 0 26 64) 0 27 4) 0 28 N) 0 29 M) 0 30 P) 0 31 0) 0 40 0 = S
  have h28 : gI S 0 28 = N := by subst hS; rfl
  have h29 : gI S 0 29 = M := by subst hS; rfl
  have h30 : gI S 0 30 = P := by subst hS; rfl
  have h31 : gI S 0 31 = 0 := by subst hS; rfl
  have h40 : gI S 0 40 = 0 := by subst hS; rfl
  have hz : ∀ c j, 1 ≤ c → gI S c j = 0 := fun c j hc => by
    subst hS
    rw [gI_sI, if_neg (by omega), gI_sI, if_neg (by omega), gI_sI, if_neg (by omega), gI_sI, if_neg (by omega), gI_sI, if_neg (by omega), gI_sI, if_neg (by omega), gI_sI, if_neg (by omega)]
    rfl
  clear hS eN eM eP
  refine loop_up (F := fun i => ∀ u, (∀ c j, c ≠ 10 → c ≠ 11 → c ≠ 15 → gI u c j = gI S c j) → (∀ r, gI u 10 r = 0) → (∀ r, r < ix i → (gI u 11 r).toInt = (N.toInt + 1) / 2) → (∀ r, r < ix i → ∀ k : Nat, 2 * (k : Int) < N.toInt → (gI u 15 (64 * r + k)).toInt = 2 * k) → wpcV PP 0 cm0 16 198 [some (.ref 0), none, none, none, some (.int i)] [] u Q) 4 (by decide) (fun i h0 h1 e ih u ua ub uc ud => ?_) (fun i hi u ua ub uc ud => ?_) 0 (by decide) (by decide) S (fun _ _ _ _ _ => rfl) (fun r => hz 10 r (by decide)) (fun r hr => absurd hr (by simp [ix])) (fun r hr => absurd hr (by simp [ix]))
  · have xi := ix_int h0
    have xj := ix_int (i := i + 1) (by omega)
    refine c0_198 _ _ _ ⟨fun _ => own_39 u i N ⟨h0, h1⟩ rN (by rw [ua 0 _ (by decide) (by decide) (by decide), h28]) _ fun t t1 t2 t3 t4 t5 t6 => ih t (fun c j a b d => by rw [t1 c j a b d, ua c j a b d]) (fun r => ?_) (fun r hr => ?_) (fun r hr k hk => ?_), fun q => absurd (by rw [i32_lt]; exact h1) q⟩
    · rw [t2 r]; split
      · rfl
      · exact ub r
    · by_cases w : r = ix i
      · subst w; exact t4
      · rw [t3 r w]; exact uc r (by omega)
    · by_cases w : r = ix i
      · subst w; exact t6 k hk
      · rw [t5 _ (by omega)]; exact ud r (by omega) k hk
  · have xi := ix_int (i := i) (by omega)
    refine c0_198 _ _ _ ⟨fun q => absurd q (by rw [i32_lt, hi]; decide), fun _ => h u ⟨?_, ?_, ?_, ?_, ?_, fun r _ => ub r, fun r hr => uc r (by omega), fun r hr => ud r (by omega), fun c j hc => ?_⟩⟩
    · rw [ua 0 _ (by decide) (by decide) (by decide), h28]
    · rw [ua 0 _ (by decide) (by decide) (by decide), h29]
    · rw [ua 0 _ (by decide) (by decide) (by decide), h30]
    · rw [ua 0 _ (by decide) (by decide) (by decide), h31]
    · rw [ua 0 _ (by decide) (by decide) (by decide), h40]
    · rw [ua c j (by omega) (by omega) (by omega), hz c j (by omega)]
theorem own_22 (s : St) (r : Int32) (Q : Int32 → St → Prop) (h : Q (if 0 ≤ r.toInt ∧ r.toInt < 4 then 1 else 0) s) : calI PP 22 16 [.ref 0, .int r] s Q := by
  apply c22_in
  refine ⟨fun a => ?_, fun a => ⟨fun b => ?_, fun b => ?_⟩⟩
  · rw [i32_lt] at a; simp at a; rw [if_neg (by omega)] at h; exact h
  · rw [i32_lt] at a b; simp at a b; rw [if_pos ⟨a, b⟩] at h; exact h
  · rw [i32_lt] at a b; simp at a b; rw [if_neg (by omega)] at h; exact h
theorem own_23 (s : St) (r N : Int32) (h28 : gI s 0 28 = N) (Q : Int32 → St → Prop) (h : Q (if 0 ≤ r.toInt ∧ r.toInt < N.toInt then 1 else 0) s) : calI PP 23 16 [.ref 0, .int r] s Q := by
  apply c23_in
  rw [h28]
  refine ⟨fun a => ?_, fun a => ⟨fun b => ?_, fun b => ?_⟩⟩
  · rw [i32_lt] at a; simp at a; rw [if_neg (by omega)] at h; exact h
  · rw [i32_lt] at a b; simp at a; rw [if_pos ⟨a, b⟩] at h; exact h
  · rw [i32_lt] at a b; simp at a; rw [if_neg (by omega)] at h; exact h

theorem own_mod2 {x : Int32} (hx : 0 ≤ x.toInt) : x % 2 = 0 ↔ x.toInt % 2 = 0 := by
  rw [i32_eq, Int32.toInt_mod]
  simp [Int.tmod_eq_emod_of_nonneg hx]
theorem own_and1 (x : Int32) : x &&& 1 = 1 ↔ x.toInt % 2 = 1 := by
  have := Jvm.Kit.i32_mask x 1 (k := 1) (by decide) (by decide)
  rw [i32_eq, this]
  simp

/-- stateOf -/
def own_st (s : St) (r x : Int32) : Int32 := if gI s 14 (64 * ix r + ix x) = 0 then (if x % 2 = 0 then 1 else if gI s 13 (64 * ix r + ix x) = 0 then 0 else 1) else 2
theorem own_38 (s : St) (r x : Int32) (hr : 0 ≤ r.toInt ∧ r.toInt < 4) (hx : 0 ≤ x.toInt ∧ x.toInt < 64) (Q : Int32 → St → Prop) (h : Q (own_st s r x) s) : calI PP 38 16 [.ref 0, .int r, .int x] s Q := by
  obtain ⟨f1, f2, f3⟩ := own_ix hr hx
  apply c38_in
  apply c48_in
  rw [f3]
  unfold own_st at h
  refine ⟨f2, fun a => ⟨fun b => ?_, fun b => ⟨f2, fun c => ?_, fun c => ?_⟩⟩, fun a => ?_⟩
  · rw [if_pos a, if_pos b] at h; exact h
  · rw [if_pos a, if_neg b, if_pos c] at h; exact h
  · rw [if_pos a, if_neg b, if_neg c] at h; exact h
  · rw [if_neg a] at h; exact h

/-- addVisible, in what it leaves alone -/
theorem own_42 (s : St) (r x N : Int32) (hr : 0 ≤ r.toInt ∧ r.toInt < 4) (hN : 8 ≤ N.toInt ∧ N.toInt ≤ 64) (h28 : gI s 0 28 = N) (hc : 0 ≤ (gI s 11 (ix r)).toInt ∧ (gI s 11 (ix r)).toInt < N.toInt) (Q : St → Prop)
    (h : ∀ t, (∀ c j, c ≠ 11 → c ≠ 15 → gI t c j = gI s c j) → (∀ j, gI t 11 j = if j = ix r then gI s 11 (ix r) + 1 else gI s 11 j) → Q t) : calV PP 42 16 [.ref 0, .int r, .int x] s Q := by
  have rb : inb 4 r := hr
  apply c42_in
  rw [h28]
  generalize ec : gI s 11 (ix r) = n at h hc ⊢
  refine ⟨rb, fun _ => ?_, fun q => absurd (by rw [i32_lt]; exact hc.2) q⟩
  have down : ∀ (m : Nat) (at' j : Int32) (u : St), 0 ≤ at'.toInt → at'.toInt + m = j.toInt → j.toInt ≤ n.toInt → (∀ c j, c ≠ 15 → gI u c j = gI s c j) → wpcV PP 42 cm42 16 60 [some (.ref 0), some (.int r), some (.int x), some (.int n), some (.int at'), some (.int j)] [] u Q := by
    intro m
    induction m with
    | zero =>
      intro at' j u a0 aj jn ua
      obtain ⟨f1, f2, f3⟩ := own_ix hr (x := at') (by omega)
      refine c42_60 _ _ _ _ _ _ _ ⟨fun q => absurd q (by rw [i32_lt]; omega), fun _ => c49_in _ _ _ _ ⟨f2, rb, h _ (fun c j c1 c2 => ?_) (fun j => ?_)⟩⟩
      · rw [gI_sI, if_neg (fun k => c1 k.1), gI_sI, if_neg (fun k => c2 k.1), ua c j c2]
      · rw [gI_sI]
        by_cases w : j = ix r
        · rw [if_pos ⟨rfl, w⟩, if_pos w]
        · rw [if_neg (fun k => w k.2), if_neg w, gI_sI, if_neg (by omega), ua 11 j (by decide)]
    | succ m ih =>
      intro at' j u a0 aj jn ua
      have e1 : (j + -1).toInt = j.toInt - 1 := by rw [i32_add] <;> simp <;> omega
      have e2 : (j - 1).toInt = j.toInt - 1 := by rw [i32_sub] <;> simp <;> omega
      obtain ⟨f1, f2, f3⟩ := own_ix hr (x := j) (by omega)
      obtain ⟨g1, g2, g3⟩ := own_ix hr (x := j - 1) (by omega)
      exact c42_60 _ _ _ _ _ _ _ ⟨fun _ => c49_in _ _ _ _ (c49_in _ _ _ _ ⟨g2, f2, ih at' (j + -1) _ a0 (by omega) (by omega) fun c k c3 => by rw [gI_sI, if_neg (fun k => c3 k.1), ua c k c3]⟩), fun q => absurd (by rw [i32_lt]; omega) q⟩
  have go : ∀ at' : Int32, 0 ≤ at'.toInt → at'.toInt ≤ n.toInt → wpcV PP 42 cm42 16 57 [some (.ref 0), some (.int r), some (.int x), some (.int n), some (.int at'), none] [] s Q := fun at' a0 a1 => c42_57 _ _ _ _ _ _ (down (n.toInt - at'.toInt).toNat at' n s a0 (by omega) (Int.le_refl _) (fun _ _ _ => rfl))
  refine loop_up (F := fun i => wpcV PP 42 cm42 16 22 [some (.ref 0), some (.int r), some (.int x), some (.int n), some (.int n), some (.int i)] [] s Q) n.toInt (by omega) (fun i h0 h1 e ih => ?_) (fun i hi => ?_) 0 (by decide) (by simpa using hc.1)
  · obtain ⟨f1, f2, f3⟩ := own_ix hr (x := i) (by omega)
    exact c42_22 _ _ _ _ _ _ _ ⟨fun _ => c49_in _ _ _ _ ⟨f2, fun _ => go i h0 (by omega), fun _ => ih⟩, fun q => absurd (by rw [i32_lt]; exact h1) q⟩
  · exact c42_22 _ _ _ _ _ _ _ ⟨fun q => absurd q (by rw [i32_lt]; omega), fun _ => go n hc.1 (Int.le_refl _)⟩

/-- createOp -/
theorem own_26 (s : St) (k r x : Int32) (hr : 0 ≤ r.toInt ∧ r.toInt < 4) (hn : inb 64 (gI s 0 31)) (Q : Int32 → St → Prop)
    (h : ∀ t, (∀ j, j ≠ 31 → gI t 0 j = gI s 0 j) → gI t 0 31 = gI s 0 31 + 1 → (∀ c j, 1 ≤ c → (c ≤ 8 → j ≠ ix (gI s 0 31)) → (c = 10 → j ≠ ix r) → gI t c j = gI s c j) → gI t 10 (ix r) = gI s 10 (ix r) + 1 → gI t 1 (ix (gI s 0 31)) = k → gI t 2 (ix (gI s 0 31)) = r → gI t 3 (ix (gI s 0 31)) = gI s 10 (ix r) + 1 → gI t 4 (ix (gI s 0 31)) = 0 → gI t 5 (ix (gI s 0 31)) = 0 → gI t 6 (ix (gI s 0 31)) = 0 → gI t 7 (ix (gI s 0 31)) = 0 → gI t 8 (ix (gI s 0 31)) = x → Q (gI s 0 31) t) : calI PP 26 16 [.ref 0, .int k, .int r, .int x] s Q := by
  have rb : inb 4 r := hr
  apply c26_in
  generalize en : gI s 0 31 = n at h hn ⊢
  refine ⟨rb, rb, hn, hn, hn, hn, ?_⟩
  apply c27_in
  refine ⟨hn, hn, hn, hn, h _ ?_ ?_ ?_ ?_ ?_ ?_ ?_ ?_ ?_ ?_ ?_ ?_⟩
  · intro j hj; simp [gI_sI, hj]
  · simp [gI_sI]
  · intro c j c1 c8 c10
    have n0 : c ≠ 0 := by omega
    simp only [gI_sI]
    by_cases w : c ≤ 8
    · have := c8 w; have : c ≠ 10 := by omega
      simp [*]
    · have : c ≠ 1 := by omega
      have : c ≠ 2 := by omega
      have : c ≠ 3 := by omega
      have : c ≠ 4 := by omega
      have : c ≠ 5 := by omega
      have : c ≠ 6 := by omega
      have : c ≠ 7 := by omega
      have : c ≠ 8 := by omega
      by_cases v : c = 10
      · have := c10 v; simp [*]
      · simp [*]
  all_goals simp [gI_sI]

/-- the ranges that keep every index inside -/
def own_F (N M P : Int32) (s : St) : Prop := gI s 0 28 = N ∧ gI s 0 29 = M ∧ gI s 0 30 = P ∧ (8 ≤ N.toInt ∧ N.toInt ≤ 64) ∧ (8 ≤ M.toInt ∧ M.toInt ≤ 64) ∧ (8 ≤ P.toInt ∧ P.toInt ≤ 32) ∧ (0 ≤ (gI s 0 31).toInt ∧ (gI s 0 31).toInt ≤ M.toInt) ∧ (0 ≤ (gI s 0 40).toInt ∧ (gI s 0 40).toInt ≤ P.toInt) ∧ (∀ r, r < 4 → 0 ≤ (gI s 11 r).toInt ∧ (gI s 11 r).toInt ≤ N.toInt) ∧ (∀ j, 0 ≤ (gI s 16 j).toInt ∧ (gI s 16 j).toInt ≤ 64)
/-- what the application of an op leaves alone -/
def own_h (s t : St) : Prop := ∀ c j, c ≠ 11 → c ≠ 13 → c ≠ 14 → c ≠ 15 → c ≠ 16 → gI t c j = gI s c j
theorem own_F_h {N M P : Int32} {s t : St} (F : own_F N M P s) (h : own_h s t) (h11 : ∀ r, r < 4 → 0 ≤ (gI t 11 r).toInt ∧ (gI t 11 r).toInt ≤ N.toInt) (h16 : ∀ j, 0 ≤ (gI t 16 j).toInt ∧ (gI t 16 j).toInt ≤ 64) : own_F N M P t := by
  obtain ⟨a, b, c, d, e, f, g, i, j, k⟩ := F
  have z : ∀ j, gI t 0 j = gI s 0 j := fun j => h 0 j (by decide) (by decide) (by decide) (by decide) (by decide)
  exact ⟨by rw [z, a], by rw [z, b], by rw [z, c], d, e, f, by rw [z]; exact g, by rw [z]; exact i, h11, h16⟩
theorem own_F_z {N M P : Int32} {s t : St} (F : own_F N M P s) (z : ∀ j, gI t 0 j = gI s 0 j) (h11 : ∀ j, gI t 11 j = gI s 11 j) (h16 : ∀ j, gI t 16 j = gI s 16 j) : own_F N M P t := by
  obtain ⟨a, b, c, d, e, f, g, i, j, k⟩ := F
  exact ⟨by rw [z, a], by rw [z, b], by rw [z, c], d, e, f, by rw [z]; exact g, by rw [z]; exact i, fun r hr => by rw [h11]; exact j r hr, fun x => by rw [h16]; exact k x⟩
theorem own_43s (s : St) (r x n : Int32) (hr : 0 ≤ r.toInt ∧ r.toInt < 4) (hn : 0 ≤ n.toInt ∧ n.toInt ≤ 64) (hc : gI s 11 (ix r) = n) (Q : St → Prop)
    (h0 : Q s) (h : ∀ t, (∀ c j, c ≠ 11 → c ≠ 15 → gI t c j = gI s c j) → (∀ j, gI t 11 j = if j = ix r then n - 1 else gI s 11 j) → 1 ≤ n.toInt → Q t) : calV PP 43 16 [.ref 0, .int r, .int x] s Q := by
  have rb : inb 4 r := hr
  have en : (n - 1).toInt = n.toInt - 1 := by rw [i32_sub] <;> simp <;> omega
  apply c43_in
  rw [hc]
  refine ⟨rb, ?_⟩
  have up : 1 ≤ n.toInt → ∀ i : Int32, 0 ≤ i.toInt → i.toInt ≤ n.toInt - 1 → ∀ u, (∀ c j, c ≠ 15 → gI u c j = gI s c j) → wpcV PP 43 cm43 16 58 [some (.ref 0), some (.int r), none, some (.int n), none, some (.int i)] [] u Q := by
    intro n1
    refine loop_up (F := fun i => ∀ u, (∀ c j, c ≠ 15 → gI u c j = gI s c j) → wpcV PP 43 cm43 16 58 [some (.ref 0), some (.int r), none, some (.int n), none, some (.int i)] [] u Q) (n.toInt - 1) (by omega) (fun i h0 h1 e ih u ua => ?_) (fun i hi u ua => ?_)
    · obtain ⟨f1, f2, f3⟩ := own_ix hr (x := i) (by omega)
      obtain ⟨g1, g2, g3⟩ := own_ix hr (x := i + 1) (by omega)
      exact c43_58 _ _ _ _ _ ⟨fun _ => c49_in _ _ _ _ (c49_in _ _ _ _ ⟨g2, f2, ih _ fun c j c3 => by rw [gI_sI, if_neg (fun k => c3 k.1), ua c j c3]⟩), fun q => absurd (by rw [i32_lt]; omega) q⟩
    · refine c43_58 _ _ _ _ _ ⟨fun q => absurd q (by rw [i32_lt]; omega), fun _ => ⟨rb, h _ (fun c j c1 c2 => ?_) (fun j => ?_) n1⟩⟩
      · rw [gI_sI, if_neg (fun k => c1 k.1), ua c j c2]
      · rw [gI_sI]
        by_cases w : j = ix r
        · rw [if_pos ⟨rfl, w⟩, if_pos w]
        · rw [if_neg (fun k => w k.2), if_neg w, ua 11 j (by decide)]
  have found : ∀ i : Int32, 0 ≤ i.toInt → i.toInt ≤ n.toInt - 1 → wpcV PP 43 cm43 16 48 [some (.ref 0), some (.int r), none, some (.int n), some (.int i), none] [] s Q := fun i i0 i1 =>
    c43_48 _ _ _ _ _ ⟨fun q => absurd q (by rw [i32_lt]; simp; omega), fun _ => up (by omega) i i0 i1 s (fun _ _ _ => rfl)⟩
  refine loop_up (F := fun i => wpcV PP 43 cm43 16 13 [some (.ref 0), some (.int r), some (.int x), some (.int n), some (.int (-1)), some (.int i)] [] s Q) n.toInt (by omega) (fun i i0 i1 e ih => ?_) (fun i hi => ?_) 0 (by decide) (by simpa using hn.1)
  · obtain ⟨f1, f2, f3⟩ := own_ix hr (x := i) (by omega)
    exact c43_13 _ _ _ _ _ _ _ ⟨fun _ => c49_in _ _ _ _ ⟨f2, fun _ => found i i0 (by omega), fun _ => ih⟩, fun q => absurd (by rw [i32_lt]; omega) q⟩
  · exact c43_13 _ _ _ _ _ _ _ ⟨fun q => absurd q (by rw [i32_lt]; omega), fun _ => c43_48 _ _ _ _ _ ⟨fun _ => h0, fun q => absurd (by decide) q⟩⟩
/-- applyCharOp -/
theorem own_35 (N M P : Int32) (s : St) (r k : Int32) (F : own_F N M P s) (hr : 0 ≤ r.toInt ∧ r.toInt < 4) (hk : inb 64 k) (Q : St → Prop) (h : ∀ t, own_F N M P t → own_h s t → Q t) : calV PP 35 16 [.ref 0, .int r, .int k] s Q := by
  have xr := ix_int hr.1
  obtain ⟨a28, a29, a30, rN, rM, rP, r31, r40, r11, r16⟩ := id F
  apply c35_in
  refine ⟨hk, own_23 s _ N a28 _ ?_⟩
  by_cases yx : 0 ≤ (gI s 8 (ix k)).toInt ∧ (gI s 8 (ix k)).toInt < N.toInt
  rotate_left
  · rw [if_neg yx]; exact ⟨fun _ => h s F (fun _ _ _ _ _ _ _ => rfl), fun q => absurd rfl q⟩
  rw [if_pos yx]
  generalize gI s 8 (ix k) = x at yx ⊢
  refine ⟨fun q => absurd q (by decide), fun _ => own_38 s r x hr (by omega) _ ?_⟩
  obtain ⟨f1, f2, f3⟩ := own_ix hr (x := x) (by omega)
  have tail : ∀ (b : Int32) (u : St), own_F N M P u → own_h s u → wpcV PP 35 cm35 16 60 [some (.ref 0), some (.int r), none, some (.int x), some (.int b), none] [] u Q := by
    intro b u Fu hu
    have last : ∀ (v : Int32) (w : St), own_F N M P w → own_h s w → wpcV PP 35 cm35 16 86 [some (.ref 0), some (.int r), none, some (.int x), some (.int b), some (.int v)] [] w Q := by
      intro v w Fw hw
      have w11 := Fw.2.2.2.2.2.2.2.2.1 (ix r) (by omega)
      refine c35_86 _ _ _ _ _ _ ⟨fun _ => ⟨fun _ => h w Fw hw, fun _ => ?_⟩, fun _ => h w Fw hw⟩
      refine own_43s w r x _ hr ⟨w11.1, by omega⟩ rfl _ (h w Fw hw) fun t tc t11 n1 => h t (own_F_h Fw (fun c j c1 c2 c3 c4 c5 => tc c j c1 c4) (fun ρ hρ => ?_) (fun j => ?_)) fun c j c1 c2 c3 c4 c5 => by rw [tc c j c1 c4, hw c j c1 c2 c3 c4 c5]
      · rw [t11]
        have e : (gI w 11 (ix r) - 1).toInt = (gI w 11 (ix r)).toInt - 1 := by rw [i32_sub] <;> simp <;> omega
        split
        · omega
        · exact Fw.2.2.2.2.2.2.2.2.1 ρ hρ
      · rw [tc 16 j (by decide) (by decide)]; exact Fw.2.2.2.2.2.2.2.2.2 j
    apply c35_60
    refine own_38 u r x hr (by omega) _ ⟨fun _ => last _ u Fu hu, fun _ => ⟨fun _ => ?_, fun _ => last _ u Fu hu⟩⟩
    have u11 := Fu.2.2.2.2.2.2.2.2.1 (ix r) (by omega)
    by_cases full : (gI u 11 (ix r)).toInt < N.toInt
    · refine own_42 u r x N hr rN Fu.1 ⟨u11.1, full⟩ _ fun t tc t11 => last _ t (own_F_h Fu (fun c j c1 c2 c3 c4 c5 => tc c j c1 c4) (fun ρ hρ => ?_) (fun j => ?_)) fun c j c1 c2 c3 c4 c5 => by rw [tc c j c1 c4, hu c j c1 c2 c3 c4 c5]
      · rw [t11]
        have e : (gI u 11 (ix r) + 1).toInt = (gI u 11 (ix r)).toInt + 1 := by rw [i32_add] <;> simp <;> omega
        split
        · omega
        · exact Fu.2.2.2.2.2.2.2.2.1 ρ hρ
      · rw [tc 16 j (by decide) (by decide)]; exact Fu.2.2.2.2.2.2.2.2.2 j
    · apply c42_in
      rw [Fu.1]
      exact ⟨hr, fun q => absurd q (by rw [i32_lt]; exact full), fun _ => last _ u Fu hu⟩
  have put : ∀ c j, (c = 13 ∨ c = 14) → own_F N M P (sI s c j 1) ∧ own_h s (sI s c j 1) := by
    intro c j hc
    have o : own_h s (sI s c j 1) := fun c' i a1 a2 a3 a4 a5 => by rw [gI_sI, if_neg (by omega)]
    refine ⟨own_F_h F o (fun ρ hρ => ?_) (fun i => ?_), o⟩
    · rw [gI_sI, if_neg (by omega)]; exact r11 ρ hρ
    · rw [gI_sI, if_neg (by omega)]; exact r16 i
  refine ⟨hk, fun _ => c48_in _ _ _ _ ⟨f2, tail _ _ (put 13 _ (Or.inl rfl)).1 (put 13 _ (Or.inl rfl)).2⟩, fun _ => c48_in _ _ _ _ ⟨f2, tail _ _ (put 14 _ (Or.inr rfl)).1 (put 14 _ (Or.inr rfl)).2⟩⟩
/-- applyMarkOp -/
theorem own_36 (N M P : Int32) (s : St) (r k : Int32) (F : own_F N M P s) (hr : 0 ≤ r.toInt ∧ r.toInt < 4) (hk : inb 64 k) (Q : St → Prop) (h : ∀ t, own_F N M P t → own_h s t → Q t) : calV PP 36 16 [.ref 0, .int r, .int k] s Q := by
  have xr := ix_int hr.1
  have rN := F.2.2.2.1
  apply c36_in
  refine ⟨hk, fun m em => ?_⟩
  have ek : (k + 1).toInt = k.toInt + 1 := by have := hk.1; have := hk.2; rw [i32_add] <;> simp <;> omega
  have m0 : 0 ≤ m.toInt := by
    rw [em]
    by_cases z : gI s 5 (ix k) / 3 < 0
    · rw [if_pos z]; decide
    · rw [if_neg z]; rw [i32_lt] at z
      have e0 : (0 : Int32).toInt = 0 := by decide
      omega
  clear em
  have one : ∀ (c : Int32) (u : St), 0 ≤ c.toInt → own_F N M P u → own_h s u → (c.toInt < N.toInt → ∀ t, own_F N M P t → own_h s t → wpcV PP 36 cm36 16 18 [some (.ref 0), some (.int r), some (.int k), none, some (.int (c + 1)), none] [] t Q) → wpcV PP 36 cm36 16 18 [some (.ref 0), some (.int r), some (.int k), none, some (.int c), none] [] u Q := by
    intro c u c0 Fu hu nx
    refine c36_18 _ _ _ _ _ ⟨fun q => ?_, fun _ => h u Fu hu⟩
    have cN : c.toInt < N.toInt := by rw [i32_lt, Fu.1] at q; exact q
    replace nx := nx cN
    refine ⟨hk, fun _ => ⟨hk, fun _ => ?_, fun _ => c36_68 _ _ _ _ _ (nx u Fu hu)⟩, fun _ => h u Fu hu⟩
    apply c37_in
    refine ⟨hk, fun _ => c36_68 _ _ _ _ _ (nx u Fu hu), fun a => ⟨fun b => c50_in _ _ _ _ _ ?_, fun _ => c36_68 _ _ _ _ _ (nx u Fu hu)⟩⟩
    obtain ⟨f1, f2, f3⟩ := own_ix hr (x := c) (by omega)
    have t4 : 0 ≤ (gI u 4 (ix k)).toInt ∧ (gI u 4 (ix k)).toInt < 4 := by rw [i32_lt] at a b; simp at a b; omega
    have e4 := own_ix4 (w := r * 64 + c) (i := gI u 4 (ix k)) (by omega) t4
    have wb : inb 1024 ((r * 64 + c) * 4 + gI u 4 (ix k)) := ⟨by omega, by show _ < (1024 : Int); omega⟩
    have w16 := Fu.2.2.2.2.2.2.2.2.2 (ix ((r * 64 + c) * 4 + gI u 4 (ix k)))
    have put : wpcV PP 37 cm37 16 56 [some (.ref 0), none, none, some (.int k), none, some (.int ((r * 64 + c) * 4 + gI u 4 (ix k))), none] [] u (fun s233 => wpcV PP 36 cm36 16 68 [some (.ref 0), some (.int r), some (.int k), none, some (.int c), none] [] s233 Q) := by
      have o : ∀ j, own_h u (sI u 16 j (k + 1)) := fun j c' i a1 a2 a3 a4 a5 => by rw [gI_sI, if_neg (by omega)]
      refine c37_56 _ _ _ _ ⟨wb, c36_68 _ _ _ _ _ (nx _ (own_F_h Fu (o _) (fun ρ hρ => ?_) (fun i => ?_)) fun c' i a1 a2 a3 a4 a5 => by rw [o _ c' i a1 a2 a3 a4 a5, hu c' i a1 a2 a3 a4 a5])⟩
      · rw [gI_sI, if_neg (by omega)]; exact Fu.2.2.2.2.2.2.2.2.1 ρ hρ
      · rw [gI_sI]; split
        · have := hk.1; have := hk.2; rw [ek]; omega
        · exact Fu.2.2.2.2.2.2.2.2.2 i
    refine ⟨wb, fun _ => put, fun z => ?_⟩
    have ew : (gI u 16 (ix ((r * 64 + c) * 4 + gI u 4 (ix k))) - 1).toInt = (gI u 16 (ix ((r * 64 + c) * 4 + gI u 4 (ix k)))).toInt - 1 := by rw [i32_sub] <;> simp <;> omega
    have cb : inb 64 (gI u 16 (ix ((r * 64 + c) * 4 + gI u 4 (ix k))) - 1) := by
      rw [i32_lt, ew] at z; simp at z
      exact ⟨by omega, by show _ < (64 : Int); omega⟩
    apply c31_in
    exact ⟨hk, cb, fun _ => ⟨hk, cb, fun _ => ⟨fun q => absurd q (by decide), fun _ => put⟩, fun _ => ⟨fun _ => c36_68 _ _ _ _ _ (nx u Fu hu), fun q => absurd rfl q⟩⟩, fun _ => ⟨hk, cb, fun _ => ⟨fun q => absurd q (by decide), fun _ => put⟩, fun _ => ⟨fun _ => c36_68 _ _ _ _ _ (nx u Fu hu), fun q => absurd rfl q⟩⟩⟩
  by_cases big : m.toInt ≤ N.toInt
  · exact loop_up (F := fun c => ∀ u, own_F N M P u → own_h s u → wpcV PP 36 cm36 16 18 [some (.ref 0), some (.int r), some (.int k), none, some (.int c), none] [] u Q) N.toInt (by omega) (fun c c0 c1 e ih u Fu hu => one c u c0 Fu hu fun _ => ih) (fun c hc u Fu hu => one c u (by omega) Fu hu fun q => absurd q (by omega)) m m0 big s F (fun _ _ _ _ _ _ _ => rfl)
  · exact one m s m0 F (fun _ _ _ _ _ _ _ => rfl) fun q => absurd q (by omega)
/-- applyOp: not new, or new -/
theorem own_34 (N M P : Int32) (s : St) (r k : Int32) (F : own_F N M P s) (hr : 0 ≤ r.toInt ∧ r.toInt < 4) (Q : Int32 → St → Prop) (h0 : Q 0 s)
    (h1 : 0 ≤ k.toInt → k.toInt < (gI s 0 31).toInt → gI s 12 (64 * ix r + ix k) = 0 → ∀ t, own_F N M P t → (∀ c j, c ≠ 10 → c ≠ 11 → c ≠ 12 → c ≠ 13 → c ≠ 14 → c ≠ 15 → c ≠ 16 → gI t c j = gI s c j) → (∀ j, gI t 12 j = if j = 64 * ix r + ix k then 1 else gI s 12 j) → (∀ j, gI t 10 j = if j = ix r ∧ gI s 10 (ix r) < gI s 3 (ix k) then gI s 3 (ix k) else gI s 10 j) → Q 1 t) : calI PP 34 16 [.ref 0, .int r, .int k] s Q := by
  obtain ⟨a28, a29, a30, rN, rM, rP, r31, r40, r11, r16⟩ := id F
  have rb : inb 4 r := hr
  apply c34_in
  refine own_22 s r _ ?_
  rw [if_pos hr]
  refine ⟨fun q => absurd q (by decide), fun _ => c24_in _ _ _ ⟨fun _ => ⟨fun _ => h0, fun q => absurd rfl q⟩, fun a => ⟨fun b => ⟨fun q => absurd q (by decide), fun _ => ?_⟩, fun _ => ⟨fun _ => h0, fun q => absurd rfl q⟩⟩⟩⟩
  have k0 : 0 ≤ k.toInt := by rw [i32_lt] at a; simpa using a
  have kn : k.toInt < (gI s 0 31).toInt := by rw [i32_lt] at b; exact b
  have kb : inb 64 k := ⟨k0, by show _ < (64 : Int); omega⟩
  have xk := ix_int k0
  have xr := ix_int hr.1
  obtain ⟨f1, f2, f3⟩ := own_ix hr (x := k) (by omega)
  apply c47_in
  rw [f3]
  refine ⟨f2, fun z => ⟨f2, kb, rb, fun lt => ⟨kb, rb, ?_⟩, fun lt => ?_⟩, fun _ => h0⟩
  all_goals
    have go : ∀ u, own_F N M P u → (∀ c j, c ≠ 10 → c ≠ 12 → gI u c j = gI s c j) → (∀ j, gI u 12 j = if j = 64 * ix r + ix k then 1 else gI s 12 j) → (∀ j, gI u 10 j = if j = ix r ∧ gI s 10 (ix r) < gI s 3 (ix k) then gI s 3 (ix k) else gI s 10 j) → wpcI PP 34 cm34 16 70 [some (.ref 0), some (.int r), some (.int k), none, none] [] u Q := by
      intro u Fu uc u12 u10
      have out : ∀ t, own_F N M P t → own_h u t → Q 1 t := fun t Ft ht => h1 k0 kn z t Ft (fun c j c1 c2 c3 c4 c5 c6 c7 => by rw [ht c j c2 c4 c5 c6 c7, uc c j c1 c3]) (fun j => by rw [ht 12 j (by decide) (by decide) (by decide) (by decide) (by decide), u12]) (fun j => by rw [ht 10 j (by decide) (by decide) (by decide) (by decide) (by decide), u10])
      refine c34_70 _ _ _ _ ⟨kb, fun _ => c34_89 _ _ _ _ (own_35 N M P u r k Fu hr kb _ out), fun _ => ⟨fun _ => c34_89 _ _ _ _ (own_35 N M P u r k Fu hr kb _ out), fun _ => own_36 N M P u r k Fu hr kb _ out⟩⟩
  · have oc : ∀ c j, c ≠ 10 → c ≠ 12 → gI (sI (sI s 12 (64 * ix r + ix k) 1) 10 (ix r) (gI s 3 (ix k))) c j = gI s c j := fun c j a b => by rw [gI_sI, if_neg (fun q => a q.1), gI_sI, if_neg (fun q => b q.1)]
    refine go _ (own_F_z F (fun j => oc 0 j (by decide) (by decide)) (fun j => oc 11 j (by decide) (by decide)) (fun j => oc 16 j (by decide) (by decide))) oc (fun j => ?_) (fun j => ?_)
    · rw [gI_sI, if_neg (by omega), gI_sI]; simp
    · rw [gI_sI, gI_sI, if_neg (show ¬ (10 = 12 ∧ j = 64 * ix r + ix k) by omega)]; simp [lt]
  · have oc : ∀ c j, c ≠ 10 → c ≠ 12 → gI (sI s 12 (64 * ix r + ix k) 1) c j = gI s c j := fun c j a b => by rw [gI_sI, if_neg (fun q => b q.1)]
    refine go _ (own_F_z F (fun j => oc 0 j (by decide) (by decide)) (fun j => oc 11 j (by decide) (by decide)) (fun j => oc 16 j (by decide) (by decide))) oc (fun j => ?_) (fun j => ?_)
    · rw [gI_sI]; simp
    · rw [gI_sI, if_neg (by omega), if_neg (fun q => lt q.2)]
/-- applyOp of an op that is new here -/
theorem own_34x (N M P : Int32) (s : St) (r k : Int32) (F : own_F N M P s) (hr : 0 ≤ r.toInt ∧ r.toInt < 4) (Q : Int32 → St → Prop) (k0 : 0 ≤ k.toInt) (kn : k.toInt < (gI s 0 31).toInt) (z : gI s 12 (64 * ix r + ix k) = 0)
    (h1 : ∀ t, own_F N M P t → (∀ c j, c ≠ 10 → c ≠ 11 → c ≠ 12 → c ≠ 13 → c ≠ 14 → c ≠ 15 → c ≠ 16 → gI t c j = gI s c j) → (∀ j, gI t 12 j = if j = 64 * ix r + ix k then 1 else gI s 12 j) → (∀ j, gI t 10 j = if j = ix r ∧ gI s 10 (ix r) < gI s 3 (ix k) then gI s 3 (ix k) else gI s 10 j) → Q 1 t) : calI PP 34 16 [.ref 0, .int r, .int k] s Q := by
  obtain ⟨a28, a29, a30, rN, rM, rP, r31, r40, r11, r16⟩ := id F
  have rb : inb 4 r := hr
  apply c34_in
  refine own_22 s r _ ?_
  rw [if_pos hr]
  refine ⟨fun q => absurd q (by decide), fun _ => c24_in _ _ _ ⟨fun q => absurd q (by rw [i32_lt]; simp; omega), fun a => ⟨fun b => ⟨fun q => absurd q (by decide), fun _ => ?_⟩, fun q => absurd (by rw [i32_lt]; exact kn) q⟩⟩⟩
  have kb : inb 64 k := ⟨k0, by show _ < (64 : Int); omega⟩
  have xk := ix_int k0
  have xr := ix_int hr.1
  obtain ⟨f1, f2, f3⟩ := own_ix hr (x := k) (by omega)
  apply c47_in
  rw [f3]
  refine ⟨f2, fun _ => ⟨f2, kb, rb, fun lt => ⟨kb, rb, ?_⟩, fun lt => ?_⟩, fun q => absurd z q⟩
  all_goals
    have go : ∀ u, own_F N M P u → (∀ c j, c ≠ 10 → c ≠ 12 → gI u c j = gI s c j) → (∀ j, gI u 12 j = if j = 64 * ix r + ix k then 1 else gI s 12 j) → (∀ j, gI u 10 j = if j = ix r ∧ gI s 10 (ix r) < gI s 3 (ix k) then gI s 3 (ix k) else gI s 10 j) → wpcI PP 34 cm34 16 70 [some (.ref 0), some (.int r), some (.int k), none, none] [] u Q := by
      intro u Fu uc u12 u10
      have out : ∀ t, own_F N M P t → own_h u t → Q 1 t := fun t Ft ht => h1 t Ft (fun c j c1 c2 c3 c4 c5 c6 c7 => by rw [ht c j c2 c4 c5 c6 c7, uc c j c1 c3]) (fun j => by rw [ht 12 j (by decide) (by decide) (by decide) (by decide) (by decide), u12]) (fun j => by rw [ht 10 j (by decide) (by decide) (by decide) (by decide) (by decide), u10])
      refine c34_70 _ _ _ _ ⟨kb, fun _ => c34_89 _ _ _ _ (own_35 N M P u r k Fu hr kb _ out), fun _ => ⟨fun _ => c34_89 _ _ _ _ (own_35 N M P u r k Fu hr kb _ out), fun _ => own_36 N M P u r k Fu hr kb _ out⟩⟩
  · have oc : ∀ c j, c ≠ 10 → c ≠ 12 → gI (sI (sI s 12 (64 * ix r + ix k) 1) 10 (ix r) (gI s 3 (ix k))) c j = gI s c j := fun c j a b => by rw [gI_sI, if_neg (fun q => a q.1), gI_sI, if_neg (fun q => b q.1)]
    refine go _ (own_F_z F (fun j => oc 0 j (by decide) (by decide)) (fun j => oc 11 j (by decide) (by decide)) (fun j => oc 16 j (by decide) (by decide))) oc (fun j => ?_) (fun j => ?_)
    · rw [gI_sI, if_neg (by omega), gI_sI]; simp
    · rw [gI_sI, gI_sI, if_neg (show ¬ (10 = 12 ∧ j = 64 * ix r + ix k) by omega)]; simp [lt]
  · have oc : ∀ c j, c ≠ 10 → c ≠ 12 → gI (sI s 12 (64 * ix r + ix k) 1) c j = gI s c j := fun c j a b => by rw [gI_sI, if_neg (fun q => b q.1)]
    refine go _ (own_F_z F (fun j => oc 0 j (by decide) (by decide)) (fun j => oc 11 j (by decide) (by decide)) (fun j => oc 16 j (by decide) (by decide))) oc (fun j => ?_) (fun j => ?_)
    · rw [gI_sI]; simp
    · rw [gI_sI, if_neg (by omega), if_neg (fun q => lt q.2)]

/-- each clock is the greatest counter applied there; each op is applied at its maker -/
def own_C (s : St) : Prop := (∀ j, gI s 12 j = 0 ∨ gI s 12 j = 1) ∧ (∀ r, r < 4 → 0 ≤ (gI s 10 r).toInt ∧ (gI s 10 r).toInt ≤ (gI s 0 31).toInt) ∧ (∀ r, r < 4 → ∀ k : Nat, (k : Int) < (gI s 0 31).toInt → gI s 12 (64 * r + k) ≠ 0 → (gI s 3 k).toInt ≤ (gI s 10 r).toInt) ∧ (∀ r, r < 4 → (gI s 10 r).toInt = 0 ∨ ∃ k : Nat, (k : Int) < (gI s 0 31).toInt ∧ gI s 12 (64 * r + k) ≠ 0 ∧ (gI s 3 k).toInt = (gI s 10 r).toInt) ∧ (∀ k : Nat, (k : Int) < (gI s 0 31).toInt → (0 ≤ (gI s 2 k).toInt ∧ (gI s 2 k).toInt < 4) ∧ gI s 12 (64 * ix (gI s 2 k) + k) ≠ 0) ∧ (∀ k : Nat, (k : Int) < (gI s 0 31).toInt → 1 ≤ (gI s 3 k).toInt ∧ (gI s 3 k).toInt ≤ (gI s 0 31).toInt) ∧ (∀ r, r < 4 → ∀ k : Nat, (gI s 0 31).toInt ≤ k → k < 64 → gI s 12 (64 * r + k) = 0)
theorem own_C_fr {s t : St} (C : own_C s) (h31 : gI t 0 31 = gI s 0 31) (h2 : ∀ j, gI t 2 j = gI s 2 j) (h3 : ∀ j, gI t 3 j = gI s 3 j) (h10 : ∀ j, gI t 10 j = gI s 10 j) (h12 : ∀ j, gI t 12 j = gI s 12 j) : own_C t := by
  unfold own_C
  simp only [h31, h2, h3, h10, h12]
  exact C
theorem own_C_ap {s t : St} {r k : Nat} (C : own_C s) (hr : r < 4) (hk : (k : Int) < (gI s 0 31).toInt) (hn : (gI s 0 31).toInt ≤ 64) (h31 : gI t 0 31 = gI s 0 31) (h2 : ∀ j, gI t 2 j = gI s 2 j) (h3 : ∀ j, gI t 3 j = gI s 3 j) (h12 : ∀ j, gI t 12 j = if j = 64 * r + k then 1 else gI s 12 j) (h10 : ∀ j, gI t 10 j = if j = r ∧ gI s 10 r < gI s 3 k then gI s 3 k else gI s 10 j) : own_C t := by
  obtain ⟨a, b, c, d, e, f, g⟩ := C
  have big : ∀ ρ, (gI s 10 ρ).toInt ≤ (gI t 10 ρ).toInt := fun ρ => by
    rw [h10]
    by_cases z : ρ = r ∧ gI s 10 r < gI s 3 k
    · rw [if_pos z, z.1]; have := z.2; rw [i32_lt] at this; omega
    · rw [if_neg z]; omega
  have up : ∀ j, gI s 12 j ≠ 0 → gI t 12 j ≠ 0 := fun j hj => by
    rw [h12]
    by_cases q : j = 64 * r + k
    · rw [if_pos q]; decide
    · rw [if_neg q]; exact hj
  refine ⟨fun j => ?_, fun ρ hρ => ?_, fun ρ hρ j hj hj2 => ?_, fun ρ hρ => ?_, fun j hj => ?_, fun j hj => ?_, fun ρ hρ j hj hj2 => ?_⟩
  · rw [h12]; split
    · exact Or.inr rfl
    · exact a j
  · rw [h31, h10]
    by_cases z : ρ = r ∧ gI s 10 r < gI s 3 k
    · rw [if_pos z]; have := f k hk; omega
    · rw [if_neg z]; exact b ρ hρ
  · rw [h31] at hj; rw [h3]; rw [h12] at hj2
    by_cases w : 64 * ρ + j = 64 * r + k
    · have : ρ = r ∧ j = k := by omega
      obtain ⟨rfl, rfl⟩ := this
      rw [h10]
      by_cases z : gI s 10 ρ < gI s 3 j
      · rw [if_pos ⟨rfl, z⟩]; omega
      · rw [if_neg (fun q => z q.2)]; rw [i32_lt] at z; omega
    · rw [if_neg w] at hj2
      have := c ρ hρ j hj hj2
      have := big ρ
      omega
  · rw [h31, h10]
    by_cases z : ρ = r ∧ gI s 10 r < gI s 3 k
    · rw [if_pos z]
      exact Or.inr ⟨k, hk, by rw [h12, z.1, if_pos rfl]; decide, by rw [h3]⟩
    · rw [if_neg z]
      refine (d ρ hρ).imp id fun ⟨j, hj, hj2, hj3⟩ => ⟨j, hj, up _ hj2, by rw [h3, hj3]⟩
  · rw [h31] at hj; rw [h2]
    exact ⟨(e j hj).1, up _ (e j hj).2⟩
  · rw [h31] at hj; rw [h3, h31]; exact f j hj
  · rw [h31] at hj; rw [h12, if_neg (by omega)]; exact g ρ hρ j hj hj2
theorem own_C_new {s t : St} {r n : Nat} (C : own_C s) (hr : r < 4) (hn : (gI s 0 31).toInt = n) (h64 : n < 64) (h31 : (gI t 0 31).toInt = n + 1) (h2 : ∀ j, j ≠ n → gI t 2 j = gI s 2 j) (h2n : (gI t 2 n).toInt = r) (h3 : ∀ j, j ≠ n → gI t 3 j = gI s 3 j) (h3n : (gI t 3 n).toInt = (gI s 10 r).toInt + 1) (h12 : ∀ j, gI t 12 j = if j = 64 * r + n then 1 else gI s 12 j) (h10 : ∀ j, j ≠ r → gI t 10 j = gI s 10 j) (h10r : (gI t 10 r).toInt = (gI s 10 r).toInt + 1) : own_C t := by
  obtain ⟨a, b, c, d, e, f, g⟩ := C
  have up : ∀ j, gI s 12 j ≠ 0 → gI t 12 j ≠ 0 := fun j hj => by
    rw [h12]
    by_cases q : j = 64 * r + n
    · rw [if_pos q]; decide
    · rw [if_neg q]; exact hj
  refine ⟨fun j => ?_, fun ρ hρ => ?_, fun ρ hρ j hj hj2 => ?_, fun ρ hρ => ?_, fun j hj => ?_, fun j hj => ?_, fun ρ hρ j hj hj2 => ?_⟩
  · rw [h12]; split
    · exact Or.inr rfl
    · exact a j
  · by_cases z : ρ = r
    · subst z; have := b ρ hρ; omega
    · rw [h10 ρ z]; have := b ρ hρ; omega
  · rw [h12] at hj2
    by_cases w : j = n
    · subst w
      by_cases z : ρ = r
      · subst z; omega
      · rw [if_neg (by omega), g ρ hρ j (by omega) (by omega)] at hj2; exact absurd rfl hj2
    · rw [h3 j w]
      rw [if_neg (by omega)] at hj2
      have := c ρ hρ j (by omega) hj2
      by_cases z : ρ = r
      · subst z; omega
      · rw [h10 ρ z]; exact this
  · by_cases z : ρ = r
    · subst z
      exact Or.inr ⟨n, by omega, by rw [h12, if_pos rfl]; decide, by omega⟩
    · rw [h10 ρ z]
      refine (d ρ hρ).imp id fun ⟨j, hj, hj2, hj3⟩ => ⟨j, by omega, up _ hj2, by rw [h3 j (by omega), hj3]⟩
  · by_cases w : j = n
    · subst w
      have xr := ix_int (i := gI t 2 j) (by omega)
      refine ⟨by omega, ?_⟩
      rw [h12, if_pos (by omega)]; decide
    · rw [h2 j w]
      exact ⟨(e j (by omega)).1, up _ (e j (by omega)).2⟩
  · by_cases w : j = n
    · subst w; have := b r hr; omega
    · rw [h3 j w]; have := f j (by omega); omega
  · rw [h12, if_neg (by omega)]; exact g ρ hρ j (by omega) hj2
/-- applyOp -/
theorem own_34c (N M P : Int32) (s : St) (r k : Int32) (F : own_F N M P s) (C : own_C s) (hr : 0 ≤ r.toInt ∧ r.toInt < 4) (Q : Int32 → St → Prop) (h : ∀ v t, own_F N M P t → own_C t → (∀ j, gI t 0 j = gI s 0 j) → (∀ j, gI t 9 j = gI s 9 j) → Q v t) : calI PP 34 16 [.ref 0, .int r, .int k] s Q := by
  have xr := ix_int hr.1
  refine own_34 N M P s r k F hr Q (h 0 s F C (fun _ => rfl) (fun _ => rfl)) fun k0 kn z t Ft tc t12 t10 => ?_
  have xk := ix_int k0
  have n64 : (gI s 0 31).toInt ≤ 64 := by have := F.2.2.2.2.2.2.1; have := F.2.2.2.2.1; omega
  have fr : ∀ c j, c < 10 → gI t c j = gI s c j := fun c j hc => tc c j (by omega) (by omega) (by omega) (by omega) (by omega) (by omega) (by omega)
  exact h 1 t Ft (own_C_ap (r := ix r) (k := ix k) C (by omega) (by omega) n64 (fr 0 _ (by decide)) (fun j => fr 2 j (by decide)) (fun j => fr 3 j (by decide)) t12 t10) (fun j => fr 0 j (by decide)) (fun j => fr 9 j (by decide))
/-- publish of the op that has just been made -/
theorem own_28 (N M P : Int32) (s u : St) (r n : Int32) (F : own_F N M P s) (C : own_C s) (hr : 0 ≤ r.toInt ∧ r.toInt < 4) (en : gI s 0 31 = n) (nM : n.toInt < M.toInt) (u0 : ∀ j, j ≠ 31 → gI u 0 j = gI s 0 j) (u31 : gI u 0 31 = n + 1) (u2 : ∀ j, j ≠ ix n → gI u 2 j = gI s 2 j) (u2n : gI u 2 (ix n) = r) (u3 : ∀ j, j ≠ ix n → gI u 3 j = gI s 3 j) (u3n : gI u 3 (ix n) = gI s 10 (ix r) + 1) (u10 : ∀ j, j ≠ ix r → gI u 10 j = gI s 10 j) (u10r : gI u 10 (ix r) = gI s 10 (ix r) + 1) (uc : ∀ c j, c = 11 ∨ c = 12 ∨ c = 16 → gI u c j = gI s c j) (Q : St → Prop) (h : ∀ t, own_F N M P t → own_C t → Q t) : calV PP 28 16 [.ref 0, .int r, .int n] u Q := by
  obtain ⟨a28, a29, a30, rN, rM, rP, r31, r40, r11, r16⟩ := id F
  have xr := ix_int hr.1
  rw [en] at r31
  have xn := ix_int r31.1
  have e1 : (n + 1).toInt = n.toInt + 1 := by rw [i32_add] <;> simp <;> omega
  have c10 := C.2.1 (ix r) (by omega)
  rw [en] at c10
  have ec : (gI s 10 (ix r) + 1).toInt = (gI s 10 (ix r)).toInt + 1 := by rw [i32_add] <;> simp <;> omega
  have Fu : own_F N M P u := ⟨by rw [u0 _ (by decide), a28], by rw [u0 _ (by decide), a29], by rw [u0 _ (by decide), a30], rN, rM, rP, by rw [u31]; omega, by rw [u0 _ (by decide)]; exact r40, fun ρ hρ => by rw [uc 11 _ (by omega)]; exact r11 ρ hρ, fun j => by rw [uc 16 _ (by omega)]; exact r16 j⟩
  have u12z : gI u 12 (64 * ix r + ix n) = 0 := by
    rw [uc 12 _ (by omega)]
    exact C.2.2.2.2.2.2 (ix r) (by omega) (ix n) (by rw [en]; omega) (by omega)
  have fin : ∀ t, own_F N M P t → (∀ c j, c ≠ 10 → c ≠ 11 → c ≠ 12 → c ≠ 13 → c ≠ 14 → c ≠ 15 → c ≠ 16 → gI t c j = gI u c j) → (∀ j, gI t 12 j = if j = 64 * ix r + ix n then 1 else gI u 12 j) → (∀ j, gI t 10 j = gI u 10 j) → calV PP 32 16 [.ref 0, .int n] t Q := by
    intro t Ft tc t12 t10
    have fr : ∀ c j, c < 10 → gI t c j = gI u c j := fun c j hc => tc c j (by omega) (by omega) (by omega) (by omega) (by omega) (by omega) (by omega)
    have Ct : own_C t := own_C_new (r := ix r) (n := ix n) C (by omega) (by rw [en]; omega) (by omega) (by rw [fr 0 _ (by decide), u31]; omega) (fun j hj => by rw [fr 2 _ (by decide), u2 j hj]) (by rw [fr 2 _ (by decide), u2n]; omega) (fun j hj => by rw [fr 3 _ (by decide), u3 j hj]) (by rw [fr 3 _ (by decide), u3n, ec]) (fun j => by rw [t12, uc 12 _ (by omega)]) (fun j hj => by rw [t10, u10 j hj]) (by rw [t10, u10r, ec])
    obtain ⟨t28, t29, t30, _, _, _, t31, t40, t11, t16⟩ := id Ft
    apply c32_in
    rw [t30]
    refine ⟨fun lt => ?_, fun _ => h t Ft Ct⟩
    have lt' : (gI t 0 40).toInt < P.toInt := by rw [i32_lt] at lt; exact lt
    have e40 : (gI t 0 40 + 1).toInt = (gI t 0 40).toInt + 1 := by rw [i32_add] <;> simp <;> omega
    have vc : ∀ c j, c ≠ 9 → (c = 0 → j ≠ 40) → gI (sI (sI t 9 (ix (gI t 0 40)) n) 0 40 (gI t 0 40 + 1)) c j = gI t c j := fun c j a b => by rw [gI_sI, if_neg (fun q => b q.1 q.2), gI_sI, if_neg (fun q => a q.1)]
    refine ⟨⟨t40.1, by show _ < (32 : Int); omega⟩, h _ ⟨by rw [vc 0 _ (by decide) (by decide), t28], by rw [vc 0 _ (by decide) (by decide), t29], by rw [vc 0 _ (by decide) (by decide), t30], rN, rM, rP, by rw [vc 0 _ (by decide) (by decide)]; exact t31, by rw [gI_sI, if_pos ⟨rfl, rfl⟩]; omega, fun ρ hρ => by rw [vc 11 _ (by decide) (by omega)]; exact t11 ρ hρ, fun j => by rw [vc 16 _ (by decide) (by omega)]; exact t16 j⟩ (own_C_fr Ct (vc 0 _ (by decide) (by decide)) (fun j => vc 2 j (by decide) (by omega)) (fun j => vc 3 j (by decide) (by omega)) (fun j => vc 10 j (by decide) (by omega)) (fun j => vc 12 j (by decide) (by omega)))⟩
  apply c28_in
  refine own_34x N M P u r n Fu hr _ r31.1 (by rw [u31]; omega) u12z fun t Ft tc t12 t10 => fin t Ft tc t12 fun j => ?_
  rw [t10, if_neg]
  rintro ⟨_, q⟩
  rw [u10r, u3n, i32_lt] at q
  omega
/-- hasRoom -/
theorem own_21 (N M P : Int32) (s : St) (F : own_F N M P s) (Q : Int32 → St → Prop) (h0 : Q 0 s) (h1 : (gI s 0 31).toInt < M.toInt → Q 1 s) : calI PP 21 16 [.ref 0] s Q := by
  apply c21_in
  rw [F.2.1, F.2.2.1]
  exact ⟨fun a => ⟨fun _ => h1 (by rw [i32_lt] at a; exact a), fun _ => h0⟩, fun _ => h0⟩
/-- a new op, its mark's fields as they may be -/
theorem own_mk (N M P : Int32) (s : St) (kind r x : Int32) (F : own_F N M P s) (C : own_C s) (hr : 0 ≤ r.toInt ∧ r.toInt < 4) (nM : (gI s 0 31).toInt < M.toInt) (Q : Int32 → St → Prop) (h : ∀ t, inb 64 (gI s 0 31) → (∀ u, (∀ c j, (c < 4 ∨ 7 < c) → gI u c j = gI t c j) → ∀ R : St → Prop, (∀ w, own_F N M P w → own_C w → R w) → calV PP 28 16 [.ref 0, .int r, .int (gI s 0 31)] u R) → Q (gI s 0 31) t) : calI PP 26 16 [.ref 0, .int kind, .int r, .int x] s Q := by
  have rM := F.2.2.2.2.1
  have r31 := F.2.2.2.2.2.2.1
  have nb : inb 64 (gI s 0 31) := ⟨r31.1, by show _ < (64 : Int); omega⟩
  refine own_26 s kind r x hr nb Q fun t t0 t31 tc t10 t1 t2 t3 t4 t5 t6 t7 t8 => h t nb fun u uc R hR => ?_
  refine own_28 N M P s u r (gI s 0 31) F C hr rfl nM (fun j hj => by rw [uc 0 _ (by omega), t0 j hj]) (by rw [uc 0 _ (by omega), t31]) (fun j hj => by rw [uc 2 _ (by omega), tc 2 j (by decide) (fun _ => hj) (by omega)]) (by rw [uc 2 _ (by omega), t2]) (fun j hj => by rw [uc 3 _ (by omega), tc 3 j (by decide) (fun _ => hj) (by omega)]) (by rw [uc 3 _ (by omega), t3]) (fun j hj => by rw [uc 10 _ (by omega), tc 10 j (by decide) (by omega) (fun _ => hj)]) (by rw [uc 10 _ (by omega), t10]) (fun c j hc => by rw [uc c j (by omega), tc c j (by omega) (by omega) (by omega)]) R hR
/-- insert, erase, mark, deliver, duplicate, discard, sync keep the order -/
theorem own_i2 (N M P : Int32) (s : St) (r x : Int32) (F : own_F N M P s) (C : own_C s) (Q : Int32 → St → Prop) (h : ∀ v t, own_F N M P t → own_C t → Q v t) : calI PP 2 16 [.ref 0, .int r, .int x] s Q := by
  have nil : ∀ v, Q v s := fun v => h v s F C
  apply c2_in
  apply c18_in
  refine own_22 s r _ ?_
  by_cases hr : 0 ≤ r.toInt ∧ r.toInt < 4
  rotate_left
  · rw [if_neg hr]; exact ⟨fun _ => ⟨fun _ => nil _, fun q => absurd rfl q⟩, fun q => absurd rfl q⟩
  rw [if_pos hr]
  refine ⟨fun q => absurd q (by decide), fun _ => own_23 s x N F.1 _ ?_⟩
  by_cases hx : 0 ≤ x.toInt ∧ x.toInt < N.toInt
  rotate_left
  · rw [if_neg hx]; exact ⟨fun _ => ⟨fun _ => nil _, fun q => absurd rfl q⟩, fun q => absurd rfl q⟩
  rw [if_pos hx]
  have rN := F.2.2.2.1
  refine ⟨fun q => absurd q (by decide), fun _ => own_38 s r x hr (by omega) _ ⟨fun _ => ?_, fun _ => ⟨fun _ => nil _, fun q => absurd rfl q⟩⟩⟩
  refine own_21 N M P s F _ ⟨fun _ => nil _, fun q => absurd (by decide) q⟩ fun nM => ⟨fun q => absurd q (by decide), fun _ => ?_⟩
  exact own_mk N M P s 0 r x F C hr nM _ fun t nb go => go t (fun _ _ _ => rfl) _ fun w Fw Cw => h _ w Fw Cw
theorem own_40 (N M P : Int32) (s : St) (r p : Int32) (F : own_F N M P s) (hr : 0 ≤ r.toInt ∧ r.toInt < 4) (Q : Int32 → St → Prop) (h : ∀ v, Q v s) : calI PP 40 16 [.ref 0, .int r, .int p] s Q := by
  have xr := ix_int hr.1
  have rN := F.2.2.2.1
  have r11 := F.2.2.2.2.2.2.2.2.1 (ix r) (by omega)
  apply c40_in
  refine ⟨fun _ => h _, fun a => ⟨hr, fun b => c49_in _ _ _ _ ?_, fun _ => h _⟩⟩
  rw [i32_lt] at a b; simp at a
  obtain ⟨f1, f2, f3⟩ := own_ix hr (x := p) (by omega)
  exact ⟨f2, h _⟩
theorem own_i3 (N M P : Int32) (s : St) (r x : Int32) (F : own_F N M P s) (C : own_C s) (Q : Int32 → St → Prop) (h : ∀ v t, own_F N M P t → own_C t → Q v t) : calI PP 3 16 [.ref 0, .int r, .int x] s Q := by
  have nil : ∀ v, Q v s := fun v => h v s F C
  apply c3_in
  apply c19_in
  refine own_22 s r _ ?_
  by_cases hr : 0 ≤ r.toInt ∧ r.toInt < 4
  rotate_left
  · rw [if_neg hr]; exact ⟨fun _ => ⟨fun _ => nil _, fun q => absurd rfl q⟩, fun q => absurd rfl q⟩
  rw [if_pos hr]
  refine ⟨fun q => absurd q (by decide), fun _ => ⟨fun _ => ⟨fun _ => nil _, fun q => absurd rfl q⟩, fun _ => ⟨hr, fun _ => ?_, fun _ => ⟨fun _ => nil _, fun q => absurd rfl q⟩⟩⟩⟩
  refine own_21 N M P s F _ ⟨fun _ => nil _, fun q => absurd (by decide) q⟩ fun nM => ⟨fun q => absurd q (by decide), fun _ => ?_⟩
  refine own_40 N M P s r x F hr _ fun v => ⟨fun _ => nil _, fun _ => ?_⟩
  exact own_mk N M P s 1 r v F C hr nM _ fun t nb go => go t (fun _ _ _ => rfl) _ fun w Fw Cw => h _ w Fw Cw
theorem own_44 (N M P : Int32) (s : St) (r ty b : Int32) (F : own_F N M P s) (hr : 0 ≤ r.toInt ∧ r.toInt < 4) (Q : Int32 → St → Prop) (h : ∀ v, Q v s) : calI PP 44 16 [.ref 0, .int r, .int ty, .int b] s Q := by
  have xr := ix_int hr.1
  have rN := F.2.2.2.1
  have r11 := F.2.2.2.2.2.2.2.2.1 (ix r) (by omega)
  have go : wpcI PP 44 cm44 16 9 [some (.ref 0), some (.int r), none, some (.int b), none] [] s Q := by
    apply c44_9
    apply c41_in
    refine ⟨hr, ?_⟩
    refine loop_up (F := fun i => wpcI PP 41 cm41 16 10 [some (.ref 0), some (.int r), some (.int b), some (.int (gI s 11 (ix r))), some (.int i), none] [] s _) (gI s 11 (ix r)).toInt (by omega) (fun i i0 i1 e ih => ?_) (fun i hi => ?_) 0 (by decide) (by simpa using r11.1)
    · obtain ⟨f1, f2, f3⟩ := own_ix hr (x := i) (by omega)
      exact c41_10 _ _ _ _ _ _ ⟨fun _ => c49_in _ _ _ _ ⟨f2, fun _ => ⟨fun _ => h _, fun _ => h _⟩, fun _ => ih⟩, fun q => absurd (by rw [i32_lt]; exact i1) q⟩
    · exact c41_10 _ _ _ _ _ _ ⟨fun q => absurd q (by rw [i32_lt]; omega), fun _ => ⟨fun _ => h _, fun _ => h _⟩⟩
  apply c44_in
  exact ⟨fun _ => go, fun _ => ⟨fun _ => go, fun _ => h _⟩⟩
theorem own_i4 (N M P : Int32) (s : St) (r a f t : Int32) (F : own_F N M P s) (C : own_C s) (Q : Int32 → St → Prop) (h : ∀ v t, own_F N M P t → own_C t → Q v t) : calI PP 4 16 [.ref 0, .int r, .int a, .int f, .int t] s Q := by
  have nil : ∀ v, Q v s := fun v => h v s F C
  apply c4_in
  apply c20_in
  refine own_22 s r _ ?_
  by_cases hr : 0 ≤ r.toInt ∧ r.toInt < 4
  rotate_left
  · rw [if_neg hr]; exact ⟨fun _ => ⟨fun _ => nil _, fun q => absurd rfl q⟩, fun q => absurd rfl q⟩
  rw [if_pos hr]
  have go : wpcI PP 20 cm20 16 39 [some (.ref 0), some (.int r), none, some (.int f), some (.int t)] [] s (fun v421 s420 => ((v421 = (0 : Int32)) → Q (-1 : Int32) s420) ∧ (¬ (v421 = (0 : Int32)) → calI PP 40 16 [.ref 0, .int r, .int f] s420 (fun v427 s426 => calI PP 40 16 [.ref 0, .int r, .int t] s426 (fun v430 s429 => ((v427 < (0 : Int32)) → Q (-1 : Int32) s429) ∧ (¬ (v427 < (0 : Int32)) → ((v430 < (0 : Int32)) → Q (-1 : Int32) s429) ∧ (¬ (v430 < (0 : Int32)) → ∀ m438, m438 = (if (a / (4 : Int32)) = (0 : Int32) then (3 : Int32) else (2 : Int32)) → (calI PP 44 16 [.ref 0, .int r, .int (a % (4 : Int32)), .int v430] s429 (fun v442 s441 => calI PP 26 16 [.ref 0, .int m438, .int r, .int (0 : Int32)] s441 (fun v445 s444 => calV PP 27 16 [.ref 0, .int v445, .int (a % (4 : Int32)), .int ((3 : Int32) * v427), .int v442] s444 (fun s447 => inb 64 v445 ∧ calV PP 28 16 [.ref 0, .int r, .int v445] (sI s447 7 (ix v445) (a / (4 : Int32))) (fun s451 => Q v445 s451))))))))))) := by
    refine c20_39 _ _ _ _ _ ⟨fun _ => ⟨fun _ => nil _, fun q => absurd rfl q⟩, fun _ => ⟨fun _ => ⟨fun _ => nil _, fun q => absurd rfl q⟩, fun _ => ⟨hr, fun _ => ?_, fun _ => ⟨fun _ => nil _, fun q => absurd rfl q⟩⟩⟩⟩
    refine own_21 N M P s F _ ⟨fun _ => nil _, fun q => absurd (by decide) q⟩ fun nM => ⟨fun q => absurd q (by decide), fun _ => ?_⟩
    refine own_40 N M P s r f F hr _ fun v => own_40 N M P s r t F hr _ fun w => ⟨fun _ => nil _, fun _ => ⟨fun _ => nil _, fun _ m _ => ?_⟩⟩
    refine own_44 N M P s r _ w F hr _ fun e => ?_
    refine own_mk N M P s m r 0 F C hr nM _ fun t nb go => c27_in _ _ _ _ _ _ ⟨nb, nb, nb, nb, go _ (fun c j hc => ?_) _ fun w Fw Cw => h _ w Fw Cw⟩
    rw [gI_sI, if_neg (by omega), gI_sI, if_neg (by omega), gI_sI, if_neg (by omega), gI_sI, if_neg (by omega)]
  exact ⟨fun q => absurd q (by decide), fun _ => ⟨fun _ => ⟨fun _ => nil _, fun q => absurd rfl q⟩, fun _ => ⟨fun _ => ⟨fun _ => nil _, fun q => absurd rfl q⟩, fun _ => ⟨fun _ => go, fun _ => ⟨fun _ => ⟨fun _ => nil _, fun q => absurd rfl q⟩, fun _ => go⟩⟩⟩⟩⟩
/-- the pool -/
theorem own_25 (N M P : Int32) (s : St) (e : Int32) (F : own_F N M P s) (Q : Int32 → St → Prop) (h0 : Q 0 s) (h1 : 0 ≤ e.toInt ∧ e.toInt < (gI s 0 40).toInt → Q 1 s) : calI PP 25 16 [.ref 0, .int e] s Q := by
  apply c25_in
  exact ⟨fun _ => h0, fun a => ⟨fun b => h1 (by rw [i32_lt] at a b; simp at a; omega), fun _ => h0⟩⟩
theorem own_pl {N M P : Int32} {s t : St} (F : own_F N M P s) (C : own_C s) (tc : ∀ c j, c ≠ 9 → (c = 0 → j ≠ 40) → gI t c j = gI s c j) (t40 : 0 ≤ (gI t 0 40).toInt ∧ (gI t 0 40).toInt ≤ P.toInt) : own_F N M P t ∧ own_C t := by
  obtain ⟨a, b, c, d, e, f, g, i, j, k⟩ := F
  exact ⟨⟨by rw [tc 0 _ (by decide) (by decide), a], by rw [tc 0 _ (by decide) (by decide), b], by rw [tc 0 _ (by decide) (by decide), c], d, e, f, by rw [tc 0 _ (by decide) (by decide)]; exact g, t40, fun ρ hρ => by rw [tc 11 _ (by decide) (by omega)]; exact j ρ hρ, fun x => by rw [tc 16 _ (by decide) (by omega)]; exact k x⟩, own_C_fr C (tc 0 _ (by decide) (by decide)) (fun j => tc 2 j (by decide) (by omega)) (fun j => tc 3 j (by decide) (by omega)) (fun j => tc 10 j (by decide) (by omega)) (fun j => tc 12 j (by decide) (by omega))⟩
theorem own_33 (N M P : Int32) (s : St) (e : Int32) (F : own_F N M P s) (C : own_C s) (he : 0 ≤ e.toInt ∧ e.toInt < (gI s 0 40).toInt) (Q : St → Prop) (h : ∀ t, own_F N M P t → own_C t → Q t) : calV PP 33 16 [.ref 0, .int e] s Q := by
  have r40 := F.2.2.2.2.2.2.2.1
  have rP := F.2.2.2.2.2.1
  have el : (gI s 0 40 - 1).toInt = (gI s 0 40).toInt - 1 := by rw [i32_sub] <;> simp <;> omega
  apply c33_in
  refine own_25 N M P s e F _ ?_ fun _ => ⟨fun q => absurd q (by decide), fun _ => ?_⟩
  · exact ⟨fun _ => h s F C, fun q => absurd rfl q⟩
  refine loop_up (F := fun i => ∀ u, (∀ c j, c ≠ 9 → gI u c j = gI s c j) → wpcV PP 33 cm33 16 18 [some (.ref 0), none, some (.int (gI s 0 40 - 1)), some (.int i)] [] u Q) ((gI s 0 40).toInt - 1) (by omega) (fun i i0 i1 ei ih u ua => ?_) (fun i hi u ua => ?_) e he.1 (by omega) s (fun _ _ _ => rfl)
  · exact c33_18 _ _ _ _ ⟨fun _ => ⟨⟨by omega, by show _ < (32 : Int); omega⟩, ⟨i0, by show _ < (32 : Int); omega⟩, ih _ fun c j a => by rw [gI_sI, if_neg (fun q => a q.1), ua c j a]⟩, fun q => absurd (by rw [i32_lt]; omega) q⟩
  · refine c33_18 _ _ _ _ ⟨fun q => absurd q (by rw [i32_lt]; omega), fun _ => ⟨⟨by omega, by show _ < (32 : Int); omega⟩, ?_⟩⟩
    obtain ⟨a, b⟩ := own_pl (t := sI (sI u 9 (ix (gI s 0 40 - 1)) 0) 0 40 (gI s 0 40 - 1)) F C (fun c j c1 c2 => by rw [gI_sI, if_neg (fun q => c2 q.1 q.2), gI_sI, if_neg (fun q => c1 q.1), ua c j c1]) (by rw [gI_sI, if_pos ⟨rfl, rfl⟩]; omega)
    exact h _ a b
theorem own_i5 (N M P : Int32) (s : St) (e r : Int32) (F : own_F N M P s) (C : own_C s) (Q : Int32 → St → Prop) (h : ∀ v t, own_F N M P t → own_C t → Q v t) : calI PP 5 16 [.ref 0, .int e, .int r] s Q := by
  have nil : ∀ v, Q v s := fun v => h v s F C
  have r40 := F.2.2.2.2.2.2.2.1
  have rP := F.2.2.2.2.2.1
  apply c5_in
  refine own_25 N M P s e F _ ⟨fun _ => nil _, fun q => absurd rfl q⟩ fun he => ⟨fun q => absurd q (by decide), fun _ => own_22 s r _ ?_⟩
  by_cases hr : 0 ≤ r.toInt ∧ r.toInt < 4
  rotate_left
  · rw [if_neg hr]; exact ⟨fun _ => nil _, fun q => absurd rfl q⟩
  rw [if_pos hr]
  exact ⟨fun q => absurd q (by decide), fun _ => ⟨⟨he.1, by show _ < (32 : Int); omega⟩, own_33 N M P s e F C he _ fun t Ft Ct => own_34c N M P t r _ Ft Ct hr _ fun v w Fw Cw _ _ => h _ w Fw Cw⟩⟩
theorem own_i7 (N M P : Int32) (s : St) (e : Int32) (F : own_F N M P s) (C : own_C s) (Q : Int32 → St → Prop) (h : ∀ v t, own_F N M P t → own_C t → Q v t) : calI PP 7 16 [.ref 0, .int e] s Q := by
  apply c7_in
  exact own_25 N M P s e F _ ⟨fun _ => h _ s F C, fun q => absurd rfl q⟩ fun he => ⟨fun q => absurd q (by decide), fun _ => own_33 N M P s e F C he _ fun t Ft Ct => h _ t Ft Ct⟩
theorem own_i6 (N M P : Int32) (s : St) (e : Int32) (F : own_F N M P s) (C : own_C s) (Q : Int32 → St → Prop) (h : ∀ v t, own_F N M P t → own_C t → Q v t) : calI PP 6 16 [.ref 0, .int e] s Q := by
  have r40 := F.2.2.2.2.2.2.2.1
  have rP := F.2.2.2.2.2.1
  apply c6_in
  refine own_25 N M P s e F _ ⟨fun _ => h _ s F C, fun q => absurd rfl q⟩ fun he => ⟨fun q => absurd q (by decide), fun _ => ⟨fun lt => ⟨⟨he.1, by show _ < (32 : Int); omega⟩, c32_in _ _ _ ⟨fun _ => ⟨⟨r40.1, ?_⟩, ?_⟩, fun _ => h _ s F C⟩⟩, fun _ => h _ s F C⟩⟩
  · rw [i32_lt, F.2.2.1] at lt; show _ < (32 : Int); omega
  · rw [i32_lt, F.2.2.1] at lt
    have e40 : (gI s 0 40 + 1).toInt = (gI s 0 40).toInt + 1 := by rw [i32_add] <;> simp <;> omega
    obtain ⟨a, b⟩ := own_pl (t := sI (sI s 9 (ix (gI s 0 40)) (gI s 9 (ix e))) 0 40 (gI s 0 40 + 1)) F C (fun c j c1 c2 => by rw [gI_sI, if_neg (fun q => c2 q.1 q.2), gI_sI, if_neg (fun q => c1 q.1)]) (by rw [gI_sI, if_pos ⟨rfl, rfl⟩]; omega)
    exact h _ _ a b
theorem own_i8 (N M P : Int32) (s : St) (a b : Int32) (F : own_F N M P s) (C : own_C s) (Q : Int32 → St → Prop) (h : ∀ v t, own_F N M P t → own_C t → Q v t) : calI PP 8 16 [.ref 0, .int a, .int b] s Q := by
  have nil : ∀ v, Q v s := fun v => h v s F C
  have rM := F.2.2.2.2.1
  have r31 := F.2.2.2.2.2.2.1
  apply c8_in
  refine own_22 s a _ ?_
  by_cases ha : 0 ≤ a.toInt ∧ a.toInt < 4
  rotate_left
  · rw [if_neg ha]; exact ⟨fun _ => nil _, fun q => absurd rfl q⟩
  rw [if_pos ha]
  refine ⟨fun q => absurd q (by decide), fun _ => own_22 s b _ ?_⟩
  by_cases hb : 0 ≤ b.toInt ∧ b.toInt < 4
  rotate_left
  · rw [if_neg hb]; exact ⟨fun _ => nil _, fun q => absurd rfl q⟩
  rw [if_pos hb]
  refine ⟨fun q => absurd q (by decide), fun _ => ⟨fun _ => nil _, fun _ => ?_⟩⟩
  refine loop_up (F := fun i => ∀ (x : Int32) (u : St), own_F N M P u → own_C u → gI u 0 31 = gI s 0 31 → wpcI PP 8 cm8 16 32 [some (.ref 0), some (.int a), some (.int b), some (.int x), some (.int i)] [] u Q) (gI s 0 31).toInt (by omega) (fun i i0 i1 e ih x u Fu Cu u31 => ?_) (fun i hi x u Fu Cu u31 => ?_) 0 (by decide) (by simpa using r31.1) 0 s F C rfl
  · obtain ⟨f1, f2, f3⟩ := own_ix ha (x := i) (by omega)
    exact c8_32 _ _ _ _ _ _ ⟨fun _ => c47_in _ _ _ _ ⟨f2, fun _ => c8_72 _ _ _ _ _ _ (ih x u Fu Cu u31), fun _ => own_34c N M P u b i Fu Cu hb _ fun v w Fw Cw w0 _ m _ => c8_72 _ _ _ _ _ _ (ih m w Fw Cw (by rw [w0, u31]))⟩, fun q => absurd (by rw [u31, i32_lt]; exact i1) q⟩
  · exact c8_32 _ _ _ _ _ _ ⟨fun q => absurd q (by rw [u31, i32_lt]; omega), fun _ => h x u Fu Cu⟩

/-- how many of the first -/
def own_ct (f : Nat → Bool) : Nat → Nat
  | 0 => 0
  | n + 1 => own_ct f n + (if f n then 1 else 0)
theorem own_ct_cg {f g : Nat → Bool} : ∀ n, (∀ c, c < n → f c = g c) → own_ct f n = own_ct g n
  | 0, _ => rfl
  | n + 1, h => by
    show own_ct f n + _ = own_ct g n + _
    rw [own_ct_cg n fun c hc => h c (by omega), h n (by omega)]
theorem own_ct_up {f g : Nat → Bool} {x : Nat} (fx : f x = false) (gx : g x = true) : ∀ n, x < n → (∀ c, c < n → c ≠ x → f c = g c) → own_ct g n = own_ct f n + 1
  | 0, h, _ => absurd h (by omega)
  | n + 1, h, e => by
    show own_ct g n + _ = own_ct f n + _ + 1
    by_cases w : x = n
    · subst w
      rw [fx, gx, own_ct_cg (f := g) (g := f) x fun c hc => (e c (by omega) (by omega)).symm]; rfl
    · rw [own_ct_up fx gx n (by omega) fun c hc => e c (by omega), e n (by omega) (by omega)]; omega
theorem own_ct_le {f : Nat → Bool} : ∀ n, own_ct f n ≤ n
  | 0 => Nat.le_refl _
  | n + 1 => by
    show own_ct f n + _ ≤ _
    have := own_ct_le (f := f) n
    split <;> omega
theorem own_ct_lt {f : Nat → Bool} {x : Nat} (fx : f x = false) : ∀ n, x < n → own_ct f n < n
  | 0, h => absurd h (by omega)
  | n + 1, h => by
    show own_ct f n + _ < _
    by_cases w : x = n
    · subst w; rw [fx]; have := own_ct_le (f := f) x; simp; omega
    · have := own_ct_lt fx n (by omega)
      split <;> omega
/-- the visible list -/
def own_V (n : Nat) (e : Nat → Int) (V : Nat → Prop) : Prop := (∀ i, i < n → 0 ≤ e i ∧ V (e i).toNat) ∧ (∀ i j, i < j → j < n → e i < e j) ∧ (∀ c, V c → ∃ i, i < n ∧ e i = c)
theorem own_V_add {n at' : Nat} {e t : Nat → Int} {V V' : Nat → Prop} {x : Nat} (h : own_V n e V) (nx : ¬ V x) (VV : ∀ c, V' c ↔ V c ∨ c = x) (an : at' ≤ n) (lo : ∀ i, i < at' → e i ≤ x) (hi : at' < n → (x : Int) < e at') (t1 : ∀ i, i < at' → t i = e i) (t2 : t at' = x) (t3 : ∀ i, at' ≤ i → i < n → t (i + 1) = e i) : own_V (n + 1) t V' := by
  obtain ⟨a, b, c⟩ := h
  have ne : ∀ i, i < n → e i ≠ x := fun i hi q => nx (by have := (a i hi).2; rw [q] at this; exact this)
  have lo' : ∀ i, i < at' → e i < x := fun i hi => by have := lo i hi; have := ne i (by omega); omega
  have hi' : ∀ i, at' ≤ i → i < n → (x : Int) < e i := fun i h1 h2 => by
    by_cases w : at' = i
    · subst w; exact hi h2
    · have := hi (by omega); have := b at' i (by omega) h2; omega
  have t4 : ∀ i, at' < i → i < n + 1 → t i = e (i - 1) := fun i h1 h2 => by have := t3 (i - 1) (by omega) (by omega); rw [show i - 1 + 1 = i by omega] at this; exact this
  refine ⟨fun i hi => ?_, fun i j ij jn => ?_, fun d hd => ?_⟩
  · rcases Nat.lt_trichotomy i at' with w | w | w
    · rw [t1 i w, VV]; exact ⟨(a i (by omega)).1, Or.inl (a i (by omega)).2⟩
    · rw [w, t2, VV]; exact ⟨by omega, Or.inr (by omega)⟩
    · rw [t4 i w hi, VV]; exact ⟨(a _ (by omega)).1, Or.inl (a _ (by omega)).2⟩
  · rcases Nat.lt_trichotomy i at' with w | w | w
    · rw [t1 i w]
      rcases Nat.lt_trichotomy j at' with v | v | v
      · rw [t1 j v]; exact b i j ij (by omega)
      · rw [v, t2]; exact lo' i w
      · rw [t4 j v jn]; have := lo' i w; have := hi' (j - 1) (by omega) (by omega); omega
    · rw [w, t2, t4 j (by omega) jn]; exact hi' _ (by omega) (by omega)
    · rw [t4 i w (by omega), t4 j (by omega) jn]; exact b _ _ (by omega) (by omega)
  · rcases (VV d).mp hd with q | q
    · obtain ⟨i, h1, h2⟩ := c d q
      by_cases w : i < at'
      · exact ⟨i, by omega, by rw [t1 i w, h2]⟩
      · exact ⟨i + 1, by omega, by rw [t3 i (by omega) h1, h2]⟩
    · exact ⟨at', by omega, by rw [t2, q]⟩
theorem own_V_drop {n at' : Nat} {e t : Nat → Int} {V V' : Nat → Prop} {x : Nat} (h : own_V n e V) (VV : ∀ c, V' c ↔ V c ∧ c ≠ x) (an : at' < n) (ex : e at' = x) (t1 : ∀ i, i < at' → t i = e i) (t3 : ∀ i, at' ≤ i → i + 1 < n → t i = e (i + 1)) : own_V (n - 1) t V' := by
  obtain ⟨a, b, c⟩ := h
  have ne : ∀ i, i < n → i ≠ at' → e i ≠ x := fun i hi w => by
    rcases Nat.lt_or_gt_of_ne w with q | q
    · have := b i at' q an; omega
    · have := b at' i q hi; omega
  refine ⟨fun i hi => ?_, fun i j ij jn => ?_, fun d hd => ?_⟩
  · by_cases w : i < at'
    · rw [t1 i w, VV]
      have := a i (by omega); have := ne i (by omega) (by omega)
      exact ⟨by omega, (a i (by omega)).2, by omega⟩
    · rw [t3 i (by omega) (by omega), VV]
      have := a (i + 1) (by omega); have := ne (i + 1) (by omega) (by omega)
      exact ⟨by omega, (a (i + 1) (by omega)).2, by omega⟩
  · by_cases w : j < at'
    · rw [t1 i (by omega), t1 j w]; exact b i j ij (by omega)
    · rw [t3 j (by omega) (by omega)]
      by_cases v : i < at'
      · rw [t1 i v]; exact b _ _ (by omega) (by omega)
      · rw [t3 i (by omega) (by omega)]; exact b _ _ (by omega) (by omega)
  · obtain ⟨q1, q2⟩ := (VV d).mp hd
    obtain ⟨i, h1, h2⟩ := c d q1
    have : i ≠ at' := fun w => by rw [w, ex] at h2; omega
    by_cases w : i < at'
    · exact ⟨i, by omega, by rw [t1 i w, h2]⟩
    · refine ⟨i - 1, by omega, ?_⟩
      rw [t3 (i - 1) (by omega) (by omega), show i - 1 + 1 = i by omega, h2]
/-- the visible list's entries -/
def own_e (s : St) (r i : Nat) : Int := (gI s 15 (64 * r + i)).toInt
/-- addVisible -/
theorem own_42d (s : St) (r x N : Int32) (hr : 0 ≤ r.toInt ∧ r.toInt < 4) (hN : 8 ≤ N.toInt ∧ N.toInt ≤ 64) (h28 : gI s 0 28 = N) (hc : 0 ≤ (gI s 11 (ix r)).toInt ∧ (gI s 11 (ix r)).toInt < N.toInt) (Q : St → Prop)
    (h : ∀ t (at' : Nat), (∀ c j, c ≠ 11 → c ≠ 15 → gI t c j = gI s c j) → (∀ j, gI t 11 j = if j = ix r then gI s 11 (ix r) + 1 else gI s 11 j) → (∀ j, (j < 64 * ix r ∨ 64 * ix r + 64 ≤ j) → gI t 15 j = gI s 15 j) → (at' : Int) ≤ (gI s 11 (ix r)).toInt → (∀ i, i < at' → own_e s (ix r) i ≤ x.toInt) → ((at' : Int) < (gI s 11 (ix r)).toInt → x.toInt < own_e s (ix r) at') → (∀ i, i < at' → own_e t (ix r) i = own_e s (ix r) i) → own_e t (ix r) at' = x.toInt → (∀ i : Nat, at' ≤ i → (i : Int) < (gI s 11 (ix r)).toInt → own_e t (ix r) (i + 1) = own_e s (ix r) i) → Q t) : calV PP 42 16 [.ref 0, .int r, .int x] s Q := by
  have rb : inb 4 r := hr
  apply c42_in
  rw [h28]
  generalize ec : gI s 11 (ix r) = n at h hc ⊢
  refine ⟨rb, fun _ => ?_, fun q => absurd (by rw [i32_lt]; exact hc.2) q⟩
  have down : ∀ (m : Nat) (at' j : Int32) (u : St), 0 ≤ at'.toInt → at'.toInt + m = j.toInt → j.toInt ≤ n.toInt → (∀ i, i < ix at' → own_e s (ix r) i ≤ x.toInt) → (at'.toInt < n.toInt → x.toInt < own_e s (ix r) (ix at')) → (∀ c j, c ≠ 15 → gI u c j = gI s c j) → (∀ j, (j < 64 * ix r ∨ 64 * ix r + 64 ≤ j) → gI u 15 j = gI s 15 j) → (∀ i : Nat, (i : Int) < j.toInt → own_e u (ix r) i = own_e s (ix r) i) → (∀ i : Nat, j.toInt ≤ i → (i : Int) < n.toInt → own_e u (ix r) (i + 1) = own_e s (ix r) i) → wpcV PP 42 cm42 16 60 [some (.ref 0), some (.int r), some (.int x), some (.int n), some (.int at'), some (.int j)] [] u Q := by
    intro m
    induction m with
    | zero =>
      intro at' j u a0 aj jn lo hi ua ub uc ud
      have xa := ix_int a0
      obtain ⟨f1, f2, f3⟩ := own_ix hr (x := at') (by omega)
      refine c42_60 _ _ _ _ _ _ _ ⟨fun q => absurd q (by rw [i32_lt]; omega), fun _ => c49_in _ _ _ _ ⟨f2, rb, h _ (ix at') (fun c j c1 c2 => ?_) (fun j => ?_) (fun j hj => ?_) (by omega) lo (fun q => hi (by omega)) (fun i hi => ?_) ?_ (fun i h1 h2 => ?_)⟩⟩
      · rw [gI_sI, if_neg (fun k => c1 k.1), gI_sI, if_neg (fun k => c2 k.1), ua c j c2]
      · rw [gI_sI]
        by_cases w : j = ix r
        · rw [if_pos ⟨rfl, w⟩, if_pos w]
        · rw [if_neg (fun k => w k.2), if_neg w, gI_sI, if_neg (by omega), ua 11 j (by decide)]
      · rw [gI_sI, if_neg (by omega), gI_sI, if_neg (by omega)]; exact ub j hj
      · unfold own_e
        rw [gI_sI, if_neg (by omega), gI_sI, if_neg (by omega)]; exact uc i (by omega)
      · unfold own_e
        rw [gI_sI, if_neg (by omega), gI_sI, if_pos (by omega)]
      · unfold own_e
        rw [gI_sI, if_neg (by omega), gI_sI, if_neg (by omega)]; exact ud i (by omega) h2
    | succ m ih =>
      intro at' j u a0 aj jn lo hi ua ub uc ud
      have e1 : (j + -1).toInt = j.toInt - 1 := by rw [i32_add] <;> simp <;> omega
      have e2 : (j - 1).toInt = j.toInt - 1 := by rw [i32_sub] <;> simp <;> omega
      obtain ⟨f1, f2, f3⟩ := own_ix hr (x := j) (by omega)
      obtain ⟨g1, g2, g3⟩ := own_ix hr (x := j - 1) (by omega)
      have xj := ix_int (i := j) (by omega)
      have xk := ix_int (i := j - 1) (by omega)
      refine c42_60 _ _ _ _ _ _ _ ⟨fun _ => c49_in _ _ _ _ (c49_in _ _ _ _ ⟨g2, f2, ih at' (j + -1) _ a0 (by omega) (by omega) lo hi (fun c k c3 => by rw [gI_sI, if_neg (fun k => c3 k.1), ua c k c3]) (fun k hk => ?_) (fun i hi => ?_) (fun i h1 h2 => ?_)⟩), fun q => absurd (by rw [i32_lt]; omega) q⟩
      · rw [gI_sI, if_neg (by omega)]; exact ub k hk
      · unfold own_e
        rw [gI_sI, if_neg (by omega)]; exact uc i (by omega)
      · unfold own_e
        rw [gI_sI]
        by_cases w : j.toInt ≤ i
        · rw [if_neg (by omega)]; exact ud i w h2
        · rw [if_pos (by omega), g3, show ix (j - 1) = i by omega]; exact uc i (by omega)
  have go : ∀ at' : Int32, 0 ≤ at'.toInt → at'.toInt ≤ n.toInt → (∀ i, i < ix at' → own_e s (ix r) i ≤ x.toInt) → (at'.toInt < n.toInt → x.toInt < own_e s (ix r) (ix at')) → wpcV PP 42 cm42 16 57 [some (.ref 0), some (.int r), some (.int x), some (.int n), some (.int at'), none] [] s Q := fun at' a0 a1 lo hi => c42_57 _ _ _ _ _ _ (down (n.toInt - at'.toInt).toNat at' n s a0 (by omega) (Int.le_refl _) lo hi (fun _ _ _ => rfl) (fun _ _ => rfl) (fun _ _ => rfl) (fun i h1 h2 => absurd h1 (by omega)))
  refine loop_up (F := fun i => (∀ k, k < ix i → own_e s (ix r) k ≤ x.toInt) → wpcV PP 42 cm42 16 22 [some (.ref 0), some (.int r), some (.int x), some (.int n), some (.int n), some (.int i)] [] s Q) n.toInt (by omega) (fun i h0 h1 e ih lo => ?_) (fun i hi lo => ?_) 0 (by decide) (by simpa using hc.1) (fun k hk => absurd hk (by simp [ix]))
  · obtain ⟨f1, f2, f3⟩ := own_ix hr (x := i) (by omega)
    have xi := ix_int h0
    have xj := ix_int (i := i + 1) (by omega)
    refine c42_22 _ _ _ _ _ _ _ ⟨fun _ => c49_in _ _ _ _ ⟨f2, fun q => go i h0 (by omega) lo fun _ => ?_, fun q => ih fun k hk => ?_⟩, fun q => absurd (by rw [i32_lt]; exact h1) q⟩
    · rw [i32_lt, f3] at q; exact q
    · rw [i32_lt, f3] at q
      by_cases w : k = ix i
      · rw [w]; unfold own_e; omega
      · exact lo k (by omega)
  · have xi := ix_int (i := i) (by omega)
    have xn := ix_int (i := n) (by omega)
    exact c42_22 _ _ _ _ _ _ _ ⟨fun q => absurd q (by rw [i32_lt]; omega), fun _ => go n hc.1 (Int.le_refl _) (fun k hk => lo k (by omega)) (fun q => absurd q (by omega))⟩
/-- dropVisible of a slot that is there -/
theorem own_43d (s : St) (r x n : Int32) (hr : 0 ≤ r.toInt ∧ r.toInt < 4) (hn : 0 ≤ n.toInt ∧ n.toInt ≤ 64) (hc : gI s 11 (ix r) = n) (hx : ∃ i : Nat, (i : Int) < n.toInt ∧ own_e s (ix r) i = x.toInt) (Q : St → Prop)
    (h : ∀ t (at' : Nat), (∀ c j, c ≠ 11 → c ≠ 15 → gI t c j = gI s c j) → (∀ j, gI t 11 j = if j = ix r then n - 1 else gI s 11 j) → (∀ j, (j < 64 * ix r ∨ 64 * ix r + 64 ≤ j) → gI t 15 j = gI s 15 j) → (at' : Int) < n.toInt → own_e s (ix r) at' = x.toInt → (∀ i, i < at' → own_e t (ix r) i = own_e s (ix r) i) → (∀ i : Nat, at' ≤ i → (i : Int) + 1 < n.toInt → own_e t (ix r) i = own_e s (ix r) (i + 1)) → Q t) : calV PP 43 16 [.ref 0, .int r, .int x] s Q := by
  have rb : inb 4 r := hr
  have n1 : 1 ≤ n.toInt := by obtain ⟨i, h1, _⟩ := hx; omega
  have en : (n - 1).toInt = n.toInt - 1 := by rw [i32_sub] <;> simp <;> omega
  apply c43_in
  rw [hc]
  refine ⟨rb, ?_⟩
  have up : ∀ i0 : Nat, (i0 : Int) < n.toInt → own_e s (ix r) i0 = x.toInt → ∀ i : Int32, 0 ≤ i.toInt → i.toInt ≤ n.toInt - 1 → i0 ≤ ix i → ∀ u, (∀ c j, c ≠ 15 → gI u c j = gI s c j) → (∀ j, (j < 64 * ix r ∨ 64 * ix r + 64 ≤ j) → gI u 15 j = gI s 15 j) → (∀ k, k < i0 → own_e u (ix r) k = own_e s (ix r) k) → (∀ k : Nat, i0 ≤ k → k < ix i → own_e u (ix r) k = own_e s (ix r) (k + 1)) → (∀ k : Nat, ix i ≤ k → (k : Int) < n.toInt → own_e u (ix r) k = own_e s (ix r) k) → wpcV PP 43 cm43 16 58 [some (.ref 0), some (.int r), none, some (.int n), none, some (.int i)] [] u Q := by
    intro i0 i0n i0x
    refine loop_up (F := fun i => i0 ≤ ix i → ∀ u, (∀ c j, c ≠ 15 → gI u c j = gI s c j) → (∀ j, (j < 64 * ix r ∨ 64 * ix r + 64 ≤ j) → gI u 15 j = gI s 15 j) → (∀ k, k < i0 → own_e u (ix r) k = own_e s (ix r) k) → (∀ k : Nat, i0 ≤ k → k < ix i → own_e u (ix r) k = own_e s (ix r) (k + 1)) → (∀ k : Nat, ix i ≤ k → (k : Int) < n.toInt → own_e u (ix r) k = own_e s (ix r) k) → wpcV PP 43 cm43 16 58 [some (.ref 0), some (.int r), none, some (.int n), none, some (.int i)] [] u Q) (n.toInt - 1) (by omega) (fun i h0 h1 e ih gi u ua ub uc ud ue => ?_) (fun i hi gi u ua ub uc ud ue => ?_)
    · obtain ⟨f1, f2, f3⟩ := own_ix hr (x := i) (by omega)
      obtain ⟨g1, g2, g3⟩ := own_ix hr (x := i + 1) (by omega)
      have xi := ix_int h0
      have xj := ix_int (i := i + 1) (by omega)
      refine c43_58 _ _ _ _ _ ⟨fun _ => c49_in _ _ _ _ (c49_in _ _ _ _ ⟨g2, f2, ih (by omega) _ (fun c j c3 => by rw [gI_sI, if_neg (fun k => c3 k.1), ua c j c3]) (fun j hj => ?_) (fun k hk => ?_) (fun k h1 h2 => ?_) (fun k h1 h2 => ?_)⟩), fun q => absurd (by rw [i32_lt]; omega) q⟩
      · rw [gI_sI, if_neg (by omega)]; exact ub j hj
      · unfold own_e; rw [gI_sI, if_neg (by omega)]; exact uc k hk
      · unfold own_e; rw [gI_sI]
        by_cases w : k = ix i
        · rw [if_pos (by omega), g3, show ix (i + 1) = k + 1 by omega]; exact ue (k + 1) (by omega) (by omega)
        · rw [if_neg (by omega)]; exact ud k h1 (by omega)
      · unfold own_e; rw [gI_sI, if_neg (by omega)]; exact ue k (by omega) h2
    · have xi := ix_int (i := i) (by omega)
      refine c43_58 _ _ _ _ _ ⟨fun q => absurd q (by rw [i32_lt]; omega), fun _ => ⟨rb, h _ i0 (fun c j c1 c2 => ?_) (fun j => ?_) (fun j hj => ?_) i0n i0x (fun k hk => ?_) (fun k h1 h2 => ?_)⟩⟩
      · rw [gI_sI, if_neg (fun k => c1 k.1), ua c j c2]
      · rw [gI_sI]
        by_cases w : j = ix r
        · rw [if_pos ⟨rfl, w⟩, if_pos w]
        · rw [if_neg (fun k => w k.2), if_neg w, ua 11 j (by decide)]
      · rw [gI_sI, if_neg (by omega)]; exact ub j hj
      · unfold own_e; rw [gI_sI, if_neg (by omega)]; exact uc k hk
      · unfold own_e; rw [gI_sI, if_neg (by omega)]; exact ud k h1 (by omega)
  have found : ∀ i : Int32, 0 ≤ i.toInt → i.toInt ≤ n.toInt - 1 → own_e s (ix r) (ix i) = x.toInt → wpcV PP 43 cm43 16 48 [some (.ref 0), some (.int r), none, some (.int n), some (.int i), none] [] s Q := fun i i0 i1 ie =>
    c43_48 _ _ _ _ _ ⟨fun q => absurd q (by rw [i32_lt]; simp; omega), fun _ => up (ix i) (by have := ix_int i0; omega) ie i i0 i1 (Nat.le_refl _) s (fun _ _ _ => rfl) (fun _ _ => rfl) (fun _ _ => rfl) (fun k h1 h2 => absurd h1 (by omega)) (fun _ _ _ => rfl)⟩
  refine loop_up (F := fun i => (∀ k : Nat, k < ix i → own_e s (ix r) k ≠ x.toInt) → wpcV PP 43 cm43 16 13 [some (.ref 0), some (.int r), some (.int x), some (.int n), some (.int (-1)), some (.int i)] [] s Q) n.toInt (by omega) (fun i i0 i1 e ih no => ?_) (fun i hi no => ?_) 0 (by decide) (by simpa using hn.1) (fun k hk => absurd hk (by simp [ix]))
  · obtain ⟨f1, f2, f3⟩ := own_ix hr (x := i) (by omega)
    have xi := ix_int i0
    have xj := ix_int (i := i + 1) (by omega)
    refine c43_13 _ _ _ _ _ _ _ ⟨fun _ => c49_in _ _ _ _ ⟨f2, fun q => found i i0 (by omega) (by rw [f3] at q; unfold own_e; rw [q]), fun q => ih fun k hk => ?_⟩, fun q => absurd (by rw [i32_lt]; omega) q⟩
    by_cases w : k = ix i
    · rw [w]; rw [f3, i32_eq] at q; exact q
    · exact no k (by omega)
  · obtain ⟨k, k1, k2⟩ := hx
    have xi := ix_int (i := i) (by omega)
    exact absurd k2 (no k (by omega))

/-- is the slot visible -/
def own_vb (s : St) (r c : Nat) : Bool := gI s 14 (64 * r + c) == 0 && (c % 2 == 0 || gI s 13 (64 * r + c) != 0)
theorem own_vb_st (s : St) (r x : Int32) (x0 : 0 ≤ x.toInt) : own_st s r x = 1 ↔ own_vb s (ix r) (ix x) = true := by
  have xx := ix_int x0
  unfold own_st own_vb
  have e : x % 2 = 0 ↔ ix x % 2 = 0 := by rw [own_mod2 x0]; omega
  by_cases a : gI s 14 (64 * ix r + ix x) = 0
  · rw [if_pos a]
    by_cases b : x % 2 = 0
    · rw [if_pos b]; simp [a, e.mp b]
    · rw [if_neg b]
      have b' : ¬ (ix x % 2 = 0) := fun q => b (e.mpr q)
      by_cases c : gI s 13 (64 * ix r + ix x) = 0
      · rw [if_pos c]; simp [a, b', c]
      · rw [if_neg c]; simp [a, c]
  · rw [if_neg a]; simp [a]
theorem own_vb_cg {s t : St} {r c : Nat} (a : gI t 13 (64 * r + c) = gI s 13 (64 * r + c)) (b : gI t 14 (64 * r + c) = gI s 14 (64 * r + c)) : own_vb t r c = own_vb s r c := by unfold own_vb; rw [a, b]
/-- the visible list is the visible slots -/
def own_VI (N : Int32) (s : St) (r : Nat) : Prop := (gI s 11 r).toInt = own_ct (own_vb s r) (ix N) ∧ own_V (own_ct (own_vb s r) (ix N)) (own_e s r) (fun c => c < ix N ∧ own_vb s r c = true)
theorem own_V_cg {n : Nat} {e t : Nat → Int} {V V' : Nat → Prop} (h : own_V n e V) (he : ∀ i, i < n → t i = e i) (hV : ∀ c, V' c ↔ V c) : own_V n t V' := by
  obtain ⟨a, b, c⟩ := h
  refine ⟨fun i hi => ?_, fun i j ij jn => ?_, fun d hd => ?_⟩
  · rw [he i hi, hV]; exact a i hi
  · rw [he i (by omega), he j jn]; exact b i j ij jn
  · obtain ⟨i, h1, h2⟩ := c d ((hV d).mp hd); exact ⟨i, h1, by rw [he i h1, h2]⟩
theorem own_VI_cg {N : Int32} {s t : St} {r : Nat} (n64 : ix N ≤ 64) (h : own_VI N s r) (h11 : gI t 11 r = gI s 11 r) (hc : ∀ c j, c = 13 ∨ c = 14 ∨ c = 15 → 64 * r ≤ j → j < 64 * r + 64 → gI t c j = gI s c j) : own_VI N t r := by
  obtain ⟨a, b⟩ := h
  have v : ∀ c, c < ix N → own_vb t r c = own_vb s r c := fun c hc' => own_vb_cg (hc 13 _ (by omega) (by omega) (by omega)) (hc 14 _ (by omega) (by omega) (by omega))
  have le := own_ct_le (f := own_vb s r) (ix N)
  unfold own_VI
  rw [own_ct_cg (f := own_vb t r) (g := own_vb s r) _ v, h11]
  refine ⟨a, own_V_cg b (fun i hi => ?_) (fun c => ?_)⟩
  · unfold own_e; rw [hc 15 _ (by omega) (by omega) (by omega)]
  · constructor <;> rintro ⟨p, q⟩ <;> refine ⟨p, ?_⟩
    · rw [← v c p]; exact q
    · rw [v c p]; exact q
/-- applyCharOp -/
theorem own_35d (N M P : Int32) (s : St) (r k : Int32) (F : own_F N M P s) (hr : 0 ≤ r.toInt ∧ r.toInt < 4) (hk : inb 64 k) (V : own_VI N s (ix r)) (Q : St → Prop)
    (h : ∀ t, own_F N M P t → (∀ c j, c ≠ 11 → c ≠ 13 → c ≠ 14 → c ≠ 15 → gI t c j = gI s c j) → (∀ j, j ≠ ix r → gI t 11 j = gI s 11 j) → (∀ j, (j < 64 * ix r ∨ 64 * ix r + 64 ≤ j) → gI t 15 j = gI s 15 j) → (∀ j, gI t 13 j = if gI s 1 (ix k) = 0 ∧ (0 ≤ (gI s 8 (ix k)).toInt ∧ (gI s 8 (ix k)).toInt < N.toInt) ∧ j = 64 * ix r + ix (gI s 8 (ix k)) then 1 else gI s 13 j) → (∀ j, gI t 14 j = if gI s 1 (ix k) ≠ 0 ∧ (0 ≤ (gI s 8 (ix k)).toInt ∧ (gI s 8 (ix k)).toInt < N.toInt) ∧ j = 64 * ix r + ix (gI s 8 (ix k)) then 1 else gI s 14 j) → own_VI N t (ix r) → Q t) : calV PP 35 16 [.ref 0, .int r, .int k] s Q := by
  have xr := ix_int hr.1
  obtain ⟨a28, a29, a30, rN, rM, rP, r31, r40, r11, r16⟩ := id F
  have xN := ix_int (i := N) (by omega)
  apply c35_in
  refine ⟨hk, own_23 s _ N a28 _ ?_⟩
  by_cases yx : 0 ≤ (gI s 8 (ix k)).toInt ∧ (gI s 8 (ix k)).toInt < N.toInt
  rotate_left
  · rw [if_neg yx]; exact ⟨fun _ => h s F (fun _ _ _ _ _ _ => rfl) (fun _ _ => rfl) (fun _ _ => rfl) (fun j => by rw [if_neg (fun q => yx q.2.1)]) (fun j => by rw [if_neg (fun q => yx q.2.1)]) V, fun q => absurd rfl q⟩
  rw [if_pos yx]
  generalize hx : gI s 8 (ix k) = x at yx h ⊢
  have xx := ix_int yx.1
  refine ⟨fun q => absurd q (by decide), fun _ => own_38 s r x hr (by omega) _ ?_⟩
  obtain ⟨f1, f2, f3⟩ := own_ix hr (x := x) (by omega)
  have tail : ∀ (u : St), (∀ c j, c ≠ 13 → c ≠ 14 → gI u c j = gI s c j) → (∀ j, j ≠ 64 * ix r + ix x → gI u 13 j = gI s 13 j ∧ gI u 14 j = gI s 14 j) → (∀ t, own_F N M P t → (∀ c j, c ≠ 11 → c ≠ 15 → gI t c j = gI u c j) → (∀ j, j ≠ ix r → gI t 11 j = gI u 11 j) → (∀ j, (j < 64 * ix r ∨ 64 * ix r + 64 ≤ j) → gI t 15 j = gI u 15 j) → own_VI N t (ix r) → Q t) → wpcV PP 35 cm35 16 60 [some (.ref 0), some (.int r), none, some (.int x), some (.int (own_st s r x)), none] [] u Q := by
    intro u uc uo hQ
    have ne : ∀ c, c ≠ ix x → own_vb u (ix r) c = own_vb s (ix r) c := fun c hc => own_vb_cg (uo _ (by omega)).1 (uo _ (by omega)).2
    have u11 : ∀ j, gI u 11 j = gI s 11 j := fun j => uc 11 j (by decide) (by decide)
    have ue : ∀ i, own_e u (ix r) i = own_e s (ix r) i := fun i => by unfold own_e; rw [uc 15 _ (by decide) (by decide)]
    have Fu : own_F N M P u := own_F_z F (fun j => uc 0 j (by decide) (by decide)) u11 (fun j => uc 16 j (by decide) (by decide))
    have Ft : ∀ t, (∀ c j, c ≠ 11 → c ≠ 15 → gI t c j = gI u c j) → (∀ j, j ≠ ix r → gI t 11 j = gI u 11 j) → own_VI N t (ix r) → own_F N M P t := fun t tc t11 tV => own_F_h Fu (fun c j c1 c2 c3 c4 c5 => tc c j c1 c4) (fun ρ hρ => by
      by_cases w : ρ = ix r
      · have := tV.1; have := own_ct_le (f := own_vb t (ix r)) (ix N); rw [w]; omega
      · rw [t11 ρ w]; exact Fu.2.2.2.2.2.2.2.2.1 ρ hρ) (fun j => by rw [tc 16 j (by decide) (by decide)]; exact Fu.2.2.2.2.2.2.2.2.2 j)
    have bi := own_vb_st s r x yx.1
    have ai := own_vb_st u r x yx.1
    apply c35_60
    refine own_38 u r x hr (by omega) _ ?_
    by_cases bv : own_vb s (ix r) (ix x) = true
    · refine ⟨fun b1 => c35_86 _ _ _ _ _ _ ⟨fun _ => ⟨fun a1 => ?_, fun a1 => ?_⟩, fun q => absurd b1 q⟩, fun q => absurd (bi.mpr bv) q⟩
      · have av := ai.mp a1
        have al : ∀ c, own_vb u (ix r) c = own_vb s (ix r) c := fun c => by
          by_cases w : c = ix x
          · rw [w, av, bv]
          · exact ne c w
        have Vu : own_VI N u (ix r) := by
          unfold own_VI
          rw [show own_vb u (ix r) = own_vb s (ix r) from funext al, show own_e u (ix r) = own_e s (ix r) from funext ue, u11]
          exact V
        exact hQ u Fu (fun _ _ _ _ => rfl) (fun _ _ => rfl) (fun _ _ => rfl) Vu
      · have av : own_vb u (ix r) (ix x) = false := by
          cases w : own_vb u (ix r) (ix x)
          · rfl
          · exact absurd (ai.mpr w) a1
        have ct := own_ct_up (f := own_vb u (ix r)) (g := own_vb s (ix r)) av bv (ix N) (by omega) (fun c _ hc => ne c hc)
        have V1 := V.1
        have le := own_ct_le (f := own_vb s (ix r)) (ix N)
        obtain ⟨i, i1, i2⟩ := V.2.2.2 (ix x) ⟨by omega, bv⟩
        refine own_43d u r x (gI s 11 (ix r)) hr (by omega) (u11 _) ⟨i, by omega, by rw [ue, i2]; omega⟩ _ fun t at' tc t11 t15 an ax t1 t3 => ?_
        have tv : own_vb t (ix r) = own_vb u (ix r) := funext fun c => own_vb_cg (tc 13 _ (by decide) (by decide)) (tc 14 _ (by decide) (by decide))
        have en : (gI s 11 (ix r) - 1).toInt = (gI s 11 (ix r)).toInt - 1 := by rw [i32_sub] <;> simp <;> omega
        have tV : own_VI N t (ix r) := by
          refine ⟨by rw [t11, if_pos rfl, en, tv]; omega, ?_⟩
          have := own_V_drop (n := own_ct (own_vb s (ix r)) (ix N)) (at' := at') (e := own_e s (ix r)) (t := own_e t (ix r)) (V' := fun c => c < ix N ∧ own_vb t (ix r) c = true) (x := ix x) V.2 (fun c => ?_) (by omega) (by rw [← ue, ax]; omega) (fun i hi => by rw [t1 i hi, ue]) (fun i h1 h2 => by rw [t3 i h1 (by omega), ue])
          · rw [show own_ct (own_vb t (ix r)) (ix N) = own_ct (own_vb s (ix r)) (ix N) - 1 by rw [tv]; omega]
            exact this
          · rw [tv]
            constructor
            · rintro ⟨p, q⟩
              have cx : c ≠ ix x := fun w => by rw [w, av] at q; exact absurd q (by decide)
              exact ⟨⟨p, by rw [← ne c cx]; exact q⟩, cx⟩
            · rintro ⟨⟨p, q⟩, cx⟩; exact ⟨p, by rw [ne c cx]; exact q⟩
        exact hQ t (Ft t tc (fun j hj => by rw [t11, if_neg hj, u11]) tV) tc (fun j hj => by rw [t11, if_neg hj]) t15 tV
    · have bf : own_vb s (ix r) (ix x) = false := by simpa using bv
      have b1 : ¬ own_st s r x = 1 := fun q => bv (bi.mp q)
      refine ⟨fun q => absurd q b1, fun _ => ⟨fun a1 => ?_, fun a1 => c35_86 _ _ _ _ _ _ ⟨fun q => absurd q b1, fun _ => ?_⟩⟩⟩
      · have av := ai.mp a1
        have ct := own_ct_up (f := own_vb s (ix r)) (g := own_vb u (ix r)) bf av (ix N) (by omega) (fun c _ hc => (ne c hc).symm)
        have V1 := V.1
        have le := own_ct_lt (f := own_vb s (ix r)) bf (ix N) (by omega)
        have c0 := u11 (ix r)
        refine own_42d u r x N hr rN Fu.1 (by rw [c0]; omega) _ fun t at' tc t11 t15 an lo hi t1 t2 t3 => c35_86 _ _ _ _ _ _ ⟨fun q => absurd q b1, fun _ => ?_⟩
        rw [c0] at an hi t3
        have tv : own_vb t (ix r) = own_vb u (ix r) := funext fun c => own_vb_cg (tc 13 _ (by decide) (by decide)) (tc 14 _ (by decide) (by decide))
        have en : (gI s 11 (ix r) + 1).toInt = (gI s 11 (ix r)).toInt + 1 := by rw [i32_add] <;> simp <;> omega
        have tV : own_VI N t (ix r) := by
          refine ⟨by rw [t11, if_pos rfl, c0, en, tv]; omega, ?_⟩
          have := own_V_add (n := own_ct (own_vb s (ix r)) (ix N)) (at' := at') (e := own_e s (ix r)) (t := own_e t (ix r)) (V' := fun c => c < ix N ∧ own_vb t (ix r) c = true) (x := ix x) V.2 (fun q => absurd q.2 bv) (fun c => ?_) (by omega) (fun i hi => by have := lo i hi; rw [ue] at this; omega) (fun q => by have := hi (by omega); rw [ue] at this; omega) (fun i hi => by rw [t1 i hi, ue]) (by rw [t2]; omega) (fun i h1 h2 => by rw [t3 i h1 (by omega), ue])
          · rw [show own_ct (own_vb t (ix r)) (ix N) = own_ct (own_vb s (ix r)) (ix N) + 1 by rw [tv]; omega]
            exact this
          · rw [tv]
            by_cases cx : c = ix x
            · rw [cx]; exact ⟨fun _ => Or.inr rfl, fun _ => ⟨by omega, av⟩⟩
            · rw [ne c cx]; exact ⟨fun q => Or.inl q, fun q => q.elim id fun w => absurd w cx⟩
        exact hQ t (Ft t tc (fun j hj => by rw [t11, if_neg hj]) tV) tc (fun j hj => by rw [t11, if_neg hj]) t15 tV
      · have av : own_vb u (ix r) (ix x) = false := by
          cases w : own_vb u (ix r) (ix x)
          · rfl
          · exact absurd (ai.mpr w) a1
        have al : ∀ c, own_vb u (ix r) c = own_vb s (ix r) c := fun c => by
          by_cases w : c = ix x
          · rw [w, av, bf]
          · exact ne c w
        have Vu : own_VI N u (ix r) := by
          unfold own_VI
          rw [show own_vb u (ix r) = own_vb s (ix r) from funext al, show own_e u (ix r) = own_e s (ix r) from funext ue, u11]
          exact V
        exact hQ u Fu (fun _ _ _ _ => rfl) (fun _ _ => rfl) (fun _ _ => rfl) Vu
  refine ⟨hk, fun kz => c48_in _ _ _ _ ⟨f2, tail _ (fun c j c1 c2 => by rw [gI_sI, if_neg (fun q => c1 q.1)]) (fun j hj => ?_) fun t tF tc t11 t15 tV => h t tF (fun c j c1 c2 c3 c4 => by rw [tc c j c1 c4, gI_sI, if_neg (fun q => c2 q.1)]) (fun j hj => by rw [t11 j hj, gI_sI, if_neg (by omega)]) (fun j hj => by rw [t15 j hj, gI_sI, if_neg (by omega)]) (fun j => ?_) (fun j => ?_) tV⟩, fun kz => c48_in _ _ _ _ ⟨f2, tail _ (fun c j c1 c2 => by rw [gI_sI, if_neg (fun q => c2 q.1)]) (fun j hj => ?_) fun t tF tc t11 t15 tV => h t tF (fun c j c1 c2 c3 c4 => by rw [tc c j c1 c4, gI_sI, if_neg (fun q => c3 q.1)]) (fun j hj => by rw [t11 j hj, gI_sI, if_neg (by omega)]) (fun j hj => by rw [t15 j hj, gI_sI, if_neg (by omega)]) (fun j => ?_) (fun j => ?_) tV⟩⟩
  · exact ⟨by rw [gI_sI, if_neg (by omega)], by rw [gI_sI, if_neg (by omega)]⟩
  · rw [tc 13 j (by decide) (by decide), gI_sI, f3]
    by_cases w : j = 64 * ix r + ix x
    · rw [if_pos ⟨rfl, w⟩, if_pos ⟨kz, yx, w⟩]
    · rw [if_neg (fun q => w q.2), if_neg (fun q => w q.2.2)]
  · rw [tc 14 j (by decide) (by decide), gI_sI, if_neg (by omega), if_neg (fun q => q.1 kz)]
  · exact ⟨by rw [gI_sI, if_neg (by omega)], by rw [gI_sI, if_neg (by omega)]⟩
  · rw [tc 13 j (by decide) (by decide), gI_sI, if_neg (by omega), if_neg (fun q => kz q.1)]
  · rw [tc 14 j (by decide) (by decide), gI_sI, f3]
    by_cases w : j = 64 * ix r + ix x
    · rw [if_pos ⟨rfl, w⟩, if_pos ⟨kz, yx, w⟩]
    · rw [if_neg (fun q => w q.2), if_neg (fun q => w q.2.2)]

/-- op k is greater than op j -/
def own_gt (s : St) (k j : Nat) : Prop := (gI s 3 j).toInt < (gI s 3 k).toInt ∨ (gI s 3 k).toInt = (gI s 3 j).toInt ∧ (gI s 2 j).toInt < (gI s 2 k).toInt
/-- op k covers slot c in type t -/
def own_cv (s : St) (k c τ : Nat) : Prop := (gI s 4 k).toInt = τ ∧ (gI s 5 k).toInt < 3 * c + 1 ∧ (3 * c + 1 : Int) < (gI s 6 k).toInt
/-- op k takes the place of the winner -/
def own_tk (s : St) (k : Nat) (W : Int32) : Prop := W.toInt = 0 ∨ own_gt s k (W.toInt.toNat - 1)
/-- offerWinner -/
theorem own_37d (N M P : Int32) (s : St) (r c k : Int32) (F : own_F N M P s) (hr : 0 ≤ r.toInt ∧ r.toInt < 4) (hc : 0 ≤ c.toInt ∧ c.toInt < 64) (hk : inb 64 k) (Q : St → Prop)
    (hA : ∀ τ : Nat, τ < 4 → (gI s 4 (ix k)).toInt = τ → own_tk s (ix k) (gI s 16 (4 * (64 * ix r + ix c) + τ)) → Q (sI s 16 (4 * (64 * ix r + ix c) + τ) (k + 1))) (hB : (∀ τ : Nat, τ < 4 → (gI s 4 (ix k)).toInt = τ → ¬ own_tk s (ix k) (gI s 16 (4 * (64 * ix r + ix c) + τ))) → Q s) : calV PP 37 16 [.ref 0, .int r, .int c, .int k] s Q := by
  have xr := ix_int hr.1
  have xc := ix_int hc.1
  apply c37_in
  refine ⟨hk, fun a => hB fun τ h1 h2 => ?_, fun a => ⟨fun b => c50_in _ _ _ _ _ ?_, fun b => hB fun τ h1 h2 => ?_⟩⟩
  · rw [i32_lt] at a; simp at a; omega
  · obtain ⟨f1, f2, f3⟩ := own_ix hr (x := c) (by omega)
    have t4 : 0 ≤ (gI s 4 (ix k)).toInt ∧ (gI s 4 (ix k)).toInt < 4 := by rw [i32_lt] at a b; simp at a b; omega
    have x4 := ix_int t4.1
    have e4 := own_ix4 (w := r * 64 + c) (i := gI s 4 (ix k)) (by omega) t4
    have wb : inb 1024 ((r * 64 + c) * 4 + gI s 4 (ix k)) := ⟨by omega, by show _ < (1024 : Int); omega⟩
    have wx := ix_int wb.1
    have wi : ix ((r * 64 + c) * 4 + gI s 4 (ix k)) = 4 * (64 * ix r + ix c) + ix (gI s 4 (ix k)) := by omega
    have hA' := hA (ix (gI s 4 (ix k))) (by omega) (by omega)
    replace hB : ¬ own_tk s (ix k) (gI s 16 (4 * (64 * ix r + ix c) + ix (gI s 4 (ix k)))) → Q s := fun q => hB fun τ h1 h2 => by
      have : τ = ix (gI s 4 (ix k)) := by omega
      rw [this]; exact q
    clear hA
    rw [wi]
    have w16 := F.2.2.2.2.2.2.2.2.2 (4 * (64 * ix r + ix c) + ix (gI s 4 (ix k)))
    generalize gI s 16 (4 * (64 * ix r + ix c) + ix (gI s 4 (ix k))) = W at w16 hA' hB ⊢
    have ew : (W - 1).toInt = W.toInt - 1 := by rw [i32_sub] <;> simp <;> omega
    have put : own_tk s (ix k) W → wpcV PP 37 cm37 16 56 [some (.ref 0), none, none, some (.int k), none, some (.int ((r * 64 + c) * 4 + gI s 4 (ix k))), none] [] s Q := fun q => c37_56 _ _ _ _ ⟨wb, by rw [wi]; exact hA' q⟩
    refine ⟨wb, fun z => put (Or.inl ?_), fun z => ?_⟩
    · rw [i32_lt, ew] at z; simp at z; omega
    have z' : 1 ≤ W.toInt := by rw [i32_lt, ew] at z; simp at z; omega
    have cb : inb 64 (W - 1) := ⟨by omega, by show _ < (64 : Int); omega⟩
    have xw := ix_int cb.1
    have ex : W.toInt.toNat - 1 = ix (W - 1) := by omega
    have tk : own_tk s (ix k) W ↔ own_gt s (ix k) (ix (W - 1)) := by
      unfold own_tk; rw [ex]; exact ⟨fun q => q.resolve_left (by omega), Or.inr⟩
    apply c31_in
    refine ⟨hk, cb, fun e => ⟨hk, cb, fun l => ⟨fun q => absurd q (by decide), fun _ => put (tk.mpr (Or.inr ⟨by rw [e], by rw [i32_lt] at l; exact l⟩))⟩, fun l => ⟨fun _ => hB fun q => ?_, fun q => absurd rfl q⟩⟩, fun e => ⟨hk, cb, fun l => ⟨fun q => absurd q (by decide), fun _ => put (tk.mpr (Or.inl (by rw [i32_lt] at l; exact l)))⟩, fun l => ⟨fun _ => hB fun q => ?_, fun q => absurd rfl q⟩⟩⟩
    · rw [i32_lt] at l
      rcases tk.mp q with g | g
      · rw [e] at g; omega
      · exact l g.2
    · rw [i32_lt] at l
      rcases tk.mp q with g | g
      · exact l g
      · exact e (Int32.toInt_inj.mp g.1)
  · rw [i32_lt] at b; simp at b; omega
theorem own_first (a : Int32) (m : Int32) (e : m = if a / 3 < 0 then 0 else a / 3) : 0 ≤ m.toInt ∧ (∀ d : Nat, (d : Int) < m.toInt → (3 * d + 1 : Int) ≤ a.toInt) := by
  have e0 : (0 : Int32).toInt = 0 := by decide
  have ed : (a / 3).toInt = a.toInt.tdiv 3 := by
    rw [Jvm.Kit.i32_div]
    · rfl
    · exact fun q => absurd q.2 (by decide)
  rw [e]
  by_cases z : a / 3 < 0
  · rw [if_pos z, e0]; exact ⟨by omega, fun d hd => absurd hd (by omega)⟩
  · rw [if_neg z]; rw [i32_lt, e0] at z
    refine ⟨by omega, fun d hd => ?_⟩
    rw [ed] at hd z
    by_cases p : 0 ≤ a.toInt
    · rw [Int.tdiv_eq_ediv_of_nonneg p] at hd; omega
    · have q := Int.neg_tdiv (-a.toInt) 3
      rw [Int.neg_neg, Int.tdiv_eq_ediv_of_nonneg (a := -a.toInt) (by omega)] at q
      omega
/-- applyMarkOp -/
theorem own_36d (N M P : Int32) (s : St) (r k : Int32) (F : own_F N M P s) (hr : 0 ≤ r.toInt ∧ r.toInt < 4) (hk : inb 64 k) (Q : St → Prop)
    (h : ∀ t, own_F N M P t → (∀ c j, c ≠ 16 → gI t c j = gI s c j) → (∀ j, (j < 256 * ix r ∨ 256 * ix r + 256 ≤ j) → gI t 16 j = gI s 16 j) → (∀ c τ, c < ix N → τ < 4 → (own_cv s (ix k) c τ ∧ own_tk s (ix k) (gI s 16 (4 * (64 * ix r + c) + τ)) → gI t 16 (4 * (64 * ix r + c) + τ) = k + 1) ∧ (¬ (own_cv s (ix k) c τ ∧ own_tk s (ix k) (gI s 16 (4 * (64 * ix r + c) + τ))) → gI t 16 (4 * (64 * ix r + c) + τ) = gI s 16 (4 * (64 * ix r + c) + τ))) → Q t) : calV PP 36 16 [.ref 0, .int r, .int k] s Q := by
  have xr := ix_int hr.1
  have rN := F.2.2.2.1
  have xN := ix_int (i := N) (by omega)
  apply c36_in
  refine ⟨hk, fun m em => ?_⟩
  have ek : (k + 1).toInt = k.toInt + 1 := by have := hk.1; have := hk.2; rw [i32_add] <;> simp <;> omega
  obtain ⟨m0, mlo⟩ := own_first _ _ em
  clear em
  let I : Nat → St → Prop := fun b u => own_F N M P u ∧ (∀ c j, c ≠ 16 → gI u c j = gI s c j) ∧ (∀ j, (j < 256 * ix r ∨ 256 * ix r + 256 ≤ j) → gI u 16 j = gI s 16 j) ∧ (∀ c τ, c < ix N → τ < 4 → (c < b ∧ own_cv s (ix k) c τ ∧ own_tk s (ix k) (gI s 16 (4 * (64 * ix r + c) + τ)) → gI u 16 (4 * (64 * ix r + c) + τ) = k + 1) ∧ (¬ (c < b ∧ own_cv s (ix k) c τ ∧ own_tk s (ix k) (gI s 16 (4 * (64 * ix r + c) + τ))) → gI u 16 (4 * (64 * ix r + c) + τ) = gI s 16 (4 * (64 * ix r + c) + τ)))
  have fin : ∀ b u, I b u → (∀ c τ, b ≤ c → c < ix N → ¬ own_cv s (ix k) c τ) → Q u := fun b u ⟨i1, i2, i3, i4⟩ nc => h u i1 i2 i3 fun c τ hc hτ => by
    obtain ⟨j1, j2⟩ := i4 c τ hc hτ
    refine ⟨fun q => j1 ⟨?_, q⟩, fun q => j2 fun w => q w.2⟩
    by_cases w : c < b
    · exact w
    · exact absurd q.1 (nc c τ (by omega) hc)
  have one : ∀ (c : Int32) (u : St), 0 ≤ c.toInt → I (ix c) u → (c.toInt < N.toInt → ∀ t, I (ix c + 1) t → wpcV PP 36 cm36 16 18 [some (.ref 0), some (.int r), some (.int k), none, some (.int (c + 1)), none] [] t Q) → wpcV PP 36 cm36 16 18 [some (.ref 0), some (.int r), some (.int k), none, some (.int c), none] [] u Q := by
    intro c u c0 Iu nx
    have xc := ix_int c0
    obtain ⟨Fu, uc, uo, ui⟩ := id Iu
    refine c36_18 _ _ _ _ _ ⟨fun q => ?_, fun q => fin _ u Iu fun d τ h1 h2 => absurd h2 (by rw [i32_lt, Fu.1] at q; omega)⟩
    have cN : c.toInt < N.toInt := by rw [i32_lt, Fu.1] at q; exact q
    replace nx := nx cN
    have e3 : (3 * c + 1).toInt = 3 * c.toInt + 1 := by
      have : (3 * c).toInt = 3 * c.toInt := by rw [i32_mul] <;> simp <;> omega
      rw [i32_add, this] <;> simp [this] <;> omega
    rw [uc 6 _ (by decide), uc 5 _ (by decide)]
    have skip : (∀ τ, τ < 4 → ¬ (own_cv s (ix k) (ix c) τ ∧ own_tk s (ix k) (gI s 16 (4 * (64 * ix r + ix c) + τ)))) → I (ix c + 1) u := fun q => ⟨Fu, uc, uo, fun d τ hd hτ => ⟨fun w => (ui d τ hd hτ).1 ⟨by
      by_cases z : d = ix c
      · rw [z] at w; exact absurd w.2 (q τ hτ)
      · omega, w.2⟩, fun w => (ui d τ hd hτ).2 fun z => w ⟨by omega, z.2⟩⟩⟩
    refine ⟨hk, fun a => ⟨hk, fun b => ?_, fun b => c36_68 _ _ _ _ _ (nx u (skip fun τ hτ q => b ?_))⟩, fun a => fin _ u Iu fun d τ h1 h2 q => a ?_⟩
    · have a' : (3 * (ix c : Int) + 1) < (gI s 6 (ix k)).toInt := by rw [i32_lt, e3] at a; omega
      have b' : (gI s 5 (ix k)).toInt < (3 * (ix c : Int) + 1) := by rw [i32_lt, e3] at b; omega
      have gt : ∀ j, own_gt u (ix k) j ↔ own_gt s (ix k) j := fun j => by unfold own_gt; rw [uc 3 _ (by decide), uc 3 _ (by decide), uc 2 _ (by decide), uc 2 _ (by decide)]
      have tk : ∀ W, own_tk u (ix k) W ↔ own_tk s (ix k) W := fun W => by unfold own_tk; rw [gt]
      have uw : ∀ τ, τ < 4 → gI u 16 (4 * (64 * ix r + ix c) + τ) = gI s 16 (4 * (64 * ix r + ix c) + τ) := fun τ hτ => (ui (ix c) τ (by omega) hτ).2 fun z => absurd z.1 (by omega)
      refine own_37d N M P u r c k Fu hr (by omega) hk _ (fun τ hτ h4 hW => c36_68 _ _ _ _ _ (nx _ ⟨?_, fun c' j a => by rw [gI_sI, if_neg (fun q => a q.1), uc c' j a], fun j hj => by rw [gI_sI, if_neg (by omega)]; exact uo j hj, fun d σ hd hσ => ?_⟩)) (fun nt => c36_68 _ _ _ _ _ (nx u (skip fun τ hτ q => nt τ hτ (by rw [uc 4 _ (by decide)]; exact q.1.1) ((tk _).mpr (by rw [uw τ hτ]; exact q.2)))))
      · refine own_F_h Fu (fun c' i a1 a2 a3 a4 a5 => by rw [gI_sI, if_neg (by omega)]) (fun ρ hρ => ?_) (fun i => ?_)
        · rw [gI_sI, if_neg (by omega)]; exact Fu.2.2.2.2.2.2.2.2.1 ρ hρ
        · rw [gI_sI]; split
          · have := hk.1; have := hk.2; rw [ek]; omega
          · exact Fu.2.2.2.2.2.2.2.2.2 i
      · rw [gI_sI]
        rw [uc 4 _ (by decide)] at h4
        rw [uw τ hτ, tk] at hW
        by_cases z : d = ix c ∧ σ = τ
        · obtain ⟨rfl, rfl⟩ := z
          rw [if_pos ⟨rfl, rfl⟩]
          exact ⟨fun _ => rfl, fun w => absurd ⟨by omega, ⟨h4, b', a'⟩, hW⟩ w⟩
        · rw [if_neg (by omega)]
          refine ⟨fun w => (ui d σ hd hσ).1 ⟨?_, w.2⟩, fun w => (ui d σ hd hσ).2 fun z => w ⟨by omega, z.2⟩⟩
          by_cases y : d = ix c
          · have := w.2.1.1; exact absurd ⟨y, by omega⟩ z
          · omega
    · rw [i32_lt, e3]; have := q.1.2.1; omega
    · rw [i32_lt, e3]; have := q.2.2; omega
  have I0 : I (ix m) s := ⟨F, fun _ _ _ => rfl, fun _ _ => rfl, fun c τ hc hτ => ⟨fun w => absurd w.2.1.2.1 (by have := mlo c (by have := ix_int m0; omega); omega), fun _ => rfl⟩⟩
  by_cases big : m.toInt ≤ N.toInt
  · exact loop_up (F := fun c => ∀ u, I (ix c) u → wpcV PP 36 cm36 16 18 [some (.ref 0), some (.int r), some (.int k), none, some (.int c), none] [] u Q) N.toInt (by omega) (fun c c0 c1 e ih u Iu => one c u c0 Iu fun _ t It => ih t (by have := ix_int c0; have := ix_int (i := c + 1) (by omega); rw [show ix (c + 1) = ix c + 1 by omega]; exact It)) (fun c hc u Iu => one c u (by omega) Iu fun q => absurd q (by omega)) m m0 big s I0
  · exact one m s m0 I0 fun q => absurd q (by omega)

/-- the flags of a slot are those of the ops applied -/
def own_H (s : St) (r c : Nat) : Prop := (gI s 13 (64 * r + c) ≠ 0 ↔ ∃ k, k < 64 ∧ gI s 12 (64 * r + k) ≠ 0 ∧ gI s 1 k = 0 ∧ (gI s 8 k).toInt = c) ∧ (gI s 14 (64 * r + c) ≠ 0 ↔ ∃ k, k < 64 ∧ gI s 12 (64 * r + k) ≠ 0 ∧ gI s 1 k = 1 ∧ (gI s 8 k).toInt = c)
/-- a mark op -/
def own_mq (s : St) (k : Nat) : Prop := gI s 1 k ≠ 0 ∧ gI s 1 k ≠ 1
/-- the winner is the greatest covering op applied -/
def own_W (s : St) (r c τ : Nat) : Prop := ((gI s 16 (4 * (64 * r + c) + τ)).toInt = 0 ∧ ∀ k, k < 64 → gI s 12 (64 * r + k) ≠ 0 → own_mq s k → ¬ own_cv s k c τ) ∨ ∃ k : Nat, k < 64 ∧ (gI s 16 (4 * (64 * r + c) + τ)).toInt = k + 1 ∧ gI s 12 (64 * r + k) ≠ 0 ∧ own_mq s k ∧ own_cv s k c τ ∧ ∀ j, j < 64 → gI s 12 (64 * r + j) ≠ 0 → own_mq s j → own_cv s j c τ → j = k ∨ own_gt s k j
def own_D (N : Int32) (s : St) (r : Nat) : Prop := own_VI N s r ∧ (∀ c, c < ix N → own_H s r c) ∧ (∀ c τ, c < ix N → τ < 4 → own_W s r c τ)
/-- no two ops have one name -/
def own_U (s : St) : Prop := ∀ j k : Nat, (j : Int) < (gI s 0 31).toInt → (k : Int) < (gI s 0 31).toInt → (gI s 3 j).toInt = (gI s 3 k).toInt → (gI s 2 j).toInt = (gI s 2 k).toInt → j = k
def own_Zr (s : St) : Prop := ∀ r, r < 4 → ∀ k : Nat, (gI s 0 31).toInt ≤ k → k < 64 → gI s 12 (64 * r + k) = 0
/-- what applyOp does -/
def own_A (N : Int32) (s t : St) (r k : Nat) : Prop := (∀ c j, c < 10 → gI t c j = gI s c j) ∧ (∀ j, gI t 12 j = if j = 64 * r + k then 1 else gI s 12 j) ∧ (∀ j, gI t 10 j = if j = r ∧ gI s 10 r < gI s 3 k then gI s 3 k else gI s 10 j) ∧ (∀ j, gI t 13 j = if gI s 1 k = 0 ∧ (0 ≤ (gI s 8 k).toInt ∧ (gI s 8 k).toInt < N.toInt) ∧ j = 64 * r + ix (gI s 8 k) then 1 else gI s 13 j) ∧ (∀ j, gI t 14 j = if gI s 1 k = 1 ∧ (0 ≤ (gI s 8 k).toInt ∧ (gI s 8 k).toInt < N.toInt) ∧ j = 64 * r + ix (gI s 8 k) then 1 else gI s 14 j)
theorem own_H_cg {s t : St} {r c : Nat} (H : own_H s r c) (h13 : gI t 13 (64 * r + c) = gI s 13 (64 * r + c)) (h14 : gI t 14 (64 * r + c) = gI s 14 (64 * r + c)) (h12 : ∀ k, k < 64 → gI t 12 (64 * r + k) = gI s 12 (64 * r + k)) (hf : ∀ c k, 1 ≤ c → c ≤ 8 → k < 64 → gI s 12 (64 * r + k) ≠ 0 → gI t c k = gI s c k) : own_H t r c := by
  have eq : ∀ v : Int32, (∃ k, k < 64 ∧ gI s 12 (64 * r + k) ≠ 0 ∧ gI s 1 k = v ∧ (gI s 8 k).toInt = c) ↔ ∃ k, k < 64 ∧ gI t 12 (64 * r + k) ≠ 0 ∧ gI t 1 k = v ∧ (gI t 8 k).toInt = c := fun v => by
    constructor
    · rintro ⟨k, a, b, d, e⟩
      exact ⟨k, a, by rw [h12 k a]; exact b, by rw [hf 1 k (by decide) (by decide) a b]; exact d, by rw [hf 8 k (by decide) (by decide) a b]; exact e⟩
    · rintro ⟨k, a, b, d, e⟩
      rw [h12 k a] at b
      rw [hf 1 k (by decide) (by decide) a b] at d
      rw [hf 8 k (by decide) (by decide) a b] at e
      exact ⟨k, a, b, d, e⟩
  unfold own_H
  rw [h13, h14, ← eq, ← eq]
  exact H
theorem own_H_ap {s t : St} {r c k : Nat} (H : own_H s r c) (hk : k < 64) (h13 : gI t 13 (64 * r + c) ≠ 0 ↔ gI s 13 (64 * r + c) ≠ 0 ∨ gI s 1 k = 0 ∧ (gI s 8 k).toInt = c) (h14 : gI t 14 (64 * r + c) ≠ 0 ↔ gI s 14 (64 * r + c) ≠ 0 ∨ gI s 1 k = 1 ∧ (gI s 8 k).toInt = c) (h12 : ∀ j, j < 64 → (gI t 12 (64 * r + j) ≠ 0 ↔ gI s 12 (64 * r + j) ≠ 0 ∨ j = k)) (hf : ∀ c k, c < 10 → gI t c k = gI s c k) : own_H t r c := by
  have eq : ∀ v : Int32, (∃ k, k < 64 ∧ gI t 12 (64 * r + k) ≠ 0 ∧ gI t 1 k = v ∧ (gI t 8 k).toInt = c) ↔ (∃ k, k < 64 ∧ gI s 12 (64 * r + k) ≠ 0 ∧ gI s 1 k = v ∧ (gI s 8 k).toInt = c) ∨ gI s 1 k = v ∧ (gI s 8 k).toInt = c := fun v => by
    constructor
    · rintro ⟨j, a, b, d, e⟩
      rw [hf 1 j (by decide)] at d
      rw [hf 8 j (by decide)] at e
      rcases (h12 j a).mp b with q | q
      · exact Or.inl ⟨j, a, q, d, e⟩
      · subst q; exact Or.inr ⟨d, e⟩
    · rintro (⟨j, a, b, d, e⟩ | ⟨d, e⟩)
      · exact ⟨j, a, (h12 j a).mpr (Or.inl b), by rw [hf 1 j (by decide)]; exact d, by rw [hf 8 j (by decide)]; exact e⟩
      · exact ⟨k, hk, (h12 k hk).mpr (Or.inr rfl), by rw [hf 1 k (by decide)]; exact d, by rw [hf 8 k (by decide)]; exact e⟩
  unfold own_H
  rw [h13, h14, eq, eq, H.1, H.2]
  exact ⟨Iff.rfl, Iff.rfl⟩
theorem own_W_cg {s t : St} {r c τ : Nat} (W : own_W s r c τ) (h16 : gI t 16 (4 * (64 * r + c) + τ) = gI s 16 (4 * (64 * r + c) + τ)) (h12 : ∀ k, k < 64 → gI t 12 (64 * r + k) = gI s 12 (64 * r + k)) (hf : ∀ c k, 1 ≤ c → c ≤ 8 → k < 64 → gI s 12 (64 * r + k) ≠ 0 → gI t c k = gI s c k) : own_W t r c τ := by
  have mq : ∀ k, k < 64 → gI s 12 (64 * r + k) ≠ 0 → (own_mq t k ↔ own_mq s k) := fun k a b => by unfold own_mq; rw [hf 1 k (by decide) (by decide) a b]
  have cv : ∀ k, k < 64 → gI s 12 (64 * r + k) ≠ 0 → (own_cv t k c τ ↔ own_cv s k c τ) := fun k a b => by unfold own_cv; rw [hf 4 k (by decide) (by decide) a b, hf 5 k (by decide) (by decide) a b, hf 6 k (by decide) (by decide) a b]
  unfold own_W
  rw [h16]
  rcases W with ⟨w, a⟩ | ⟨k, hk, w, a, b, d, e⟩
  · refine Or.inl ⟨w, fun k k1 k2 k3 => ?_⟩
    rw [h12 k k1] at k2
    rw [cv k k1 k2]
    exact a k k1 k2 ((mq k k1 k2).mp k3)
  · refine Or.inr ⟨k, hk, w, by rw [h12 k hk]; exact a, (mq k hk a).mpr b, (cv k hk a).mpr d, fun j k1 k2 k3 k4 => ?_⟩
    rw [h12 j k1] at k2
    refine (e j k1 k2 ((mq j k1 k2).mp k3) ((cv j k1 k2).mp k4)).imp id fun g => ?_
    unfold own_gt
    rw [hf 3 k (by decide) (by decide) hk a, hf 2 k (by decide) (by decide) hk a, hf 3 j (by decide) (by decide) k1 k2, hf 2 j (by decide) (by decide) k1 k2]
    exact g
theorem own_gt_tr {s : St} {i j k : Nat} (a : own_gt s i j) (b : own_gt s j k) : own_gt s i k := by
  unfold own_gt at *
  omega
theorem own_W_ap {s t : St} {r c τ k : Nat} (W : own_W s r c τ) (hk : k < 64) (hap : gI s 12 (64 * r + k) = 0) (h12 : ∀ j, j < 64 → (gI t 12 (64 * r + j) ≠ 0 ↔ gI s 12 (64 * r + j) ≠ 0 ∨ j = k)) (hf : ∀ c k, c < 10 → gI t c k = gI s c k) (tot : ∀ j, j < 64 → gI s 12 (64 * r + j) ≠ 0 → own_gt s k j ∨ own_gt s j k) (hA : own_mq s k ∧ own_cv s k c τ ∧ own_tk s k (gI s 16 (4 * (64 * r + c) + τ)) → (gI t 16 (4 * (64 * r + c) + τ)).toInt = k + 1) (hB : ¬ (own_mq s k ∧ own_cv s k c τ ∧ own_tk s k (gI s 16 (4 * (64 * r + c) + τ))) → gI t 16 (4 * (64 * r + c) + τ) = gI s 16 (4 * (64 * r + c) + τ)) : own_W t r c τ := by
  have mq : ∀ k, own_mq t k ↔ own_mq s k := fun k => by unfold own_mq; rw [hf 1 k (by decide)]
  have cv : ∀ k, own_cv t k c τ ↔ own_cv s k c τ := fun k => by unfold own_cv; rw [hf 4 k (by decide), hf 5 k (by decide), hf 6 k (by decide)]
  have gt : ∀ i j, own_gt t i j ↔ own_gt s i j := fun i j => by unfold own_gt; rw [hf 3 i (by decide), hf 2 i (by decide), hf 3 j (by decide), hf 2 j (by decide)]
  unfold own_W
  simp only [mq, cv, gt]
  rcases W with ⟨w, a⟩ | ⟨k0, hk0, w, a, b, d, e⟩
  · by_cases z : own_mq s k ∧ own_cv s k c τ
    · refine Or.inr ⟨k, hk, hA ⟨z.1, z.2, Or.inl w⟩, (h12 k hk).mpr (Or.inr rfl), z.1, z.2, fun j j1 j2 j3 j4 => ?_⟩
      rcases (h12 j j1).mp j2 with q | q
      · exact absurd j4 (a j j1 q j3)
      · exact Or.inl q
    · refine Or.inl ⟨by rw [hB fun q => z ⟨q.1, q.2.1⟩]; exact w, fun j j1 j2 j3 j4 => ?_⟩
      rcases (h12 j j1).mp j2 with q | q
      · exact a j j1 q j3 j4
      · rw [q] at j3 j4; exact z ⟨j3, j4⟩
  · have ek : (gI s 16 (4 * (64 * r + c) + τ)).toInt.toNat - 1 = k0 := by omega
    have tk : own_tk s k (gI s 16 (4 * (64 * r + c) + τ)) ↔ own_gt s k k0 := by
      unfold own_tk; rw [ek]; exact ⟨fun q => q.resolve_left (by omega), Or.inr⟩
    by_cases z : own_mq s k ∧ own_cv s k c τ ∧ own_gt s k k0
    · refine Or.inr ⟨k, hk, hA ⟨z.1, z.2.1, tk.mpr z.2.2⟩, (h12 k hk).mpr (Or.inr rfl), z.1, z.2.1, fun j j1 j2 j3 j4 => ?_⟩
      rcases (h12 j j1).mp j2 with q | q
      · rcases e j j1 q j3 j4 with y | y
        · rw [y]; exact Or.inr z.2.2
        · exact Or.inr (own_gt_tr z.2.2 y)
      · exact Or.inl q
    · refine Or.inr ⟨k0, hk0, by rw [hB fun q => z ⟨q.1, q.2.1, tk.mp q.2.2⟩]; exact w, (h12 k0 hk0).mpr (Or.inl a), b, d, fun j j1 j2 j3 j4 => ?_⟩
      rcases (h12 j j1).mp j2 with q | q
      · exact e j j1 q j3 j4
      · rw [q] at j3 j4 ⊢
        rcases tot k0 hk0 a with y | y
        · exact absurd ⟨j3, j4, y⟩ z
        · exact Or.inr y
theorem own_D_cg {N : Int32} {s t : St} {r : Nat} (n64 : ix N ≤ 64) (D : own_D N s r) (h11 : gI t 11 r = gI s 11 r) (hc : ∀ c j, 12 ≤ c → c ≤ 15 → 64 * r ≤ j → j < 64 * r + 64 → gI t c j = gI s c j) (h16 : ∀ j, 256 * r ≤ j → j < 256 * r + 256 → gI t 16 j = gI s 16 j) (hf : ∀ c k, 1 ≤ c → c ≤ 8 → k < 64 → gI s 12 (64 * r + k) ≠ 0 → gI t c k = gI s c k) : own_D N t r := by
  have h12 : ∀ k, k < 64 → gI t 12 (64 * r + k) = gI s 12 (64 * r + k) := fun k hk => hc 12 _ (by decide) (by decide) (by omega) (by omega)
  exact ⟨own_VI_cg n64 D.1 h11 (fun c j a b d => hc c j (by omega) (by omega) b d), fun c c1 => own_H_cg (D.2.1 c c1) (hc 13 _ (by decide) (by decide) (by omega) (by omega)) (hc 14 _ (by decide) (by decide) (by omega) (by omega)) h12 hf, fun c τ c1 τ1 => own_W_cg (D.2.2 c τ c1 τ1) (h16 _ (by omega) (by omega)) h12 hf⟩
/-- applyOp of an op that is new here -/
theorem own_34e (N M P : Int32) (s : St) (r k : Int32) (F : own_F N M P s) (U : own_U s) (Z : own_Zr s) (D : ∀ ρ, ρ < 4 → own_D N s ρ) (hr : 0 ≤ r.toInt ∧ r.toInt < 4) (Q : Int32 → St → Prop) (k0 : 0 ≤ k.toInt) (kn : k.toInt < (gI s 0 31).toInt) (z : gI s 12 (64 * ix r + ix k) = 0)
    (h1 : ∀ t, own_F N M P t → (∀ ρ, ρ < 4 → own_D N t ρ) → own_A N s t (ix r) (ix k) → Q 1 t) : calI PP 34 16 [.ref 0, .int r, .int k] s Q := by
  obtain ⟨a28, a29, a30, rN, rM, rP, r31, r40, r11, r16⟩ := id F
  have rb : inb 4 r := hr
  have xN := ix_int (i := N) (by omega)
  apply c34_in
  refine own_22 s r _ ?_
  rw [if_pos hr]
  refine ⟨fun q => absurd q (by decide), fun _ => c24_in _ _ _ ⟨fun q => absurd q (by rw [i32_lt]; simp; omega), fun a => ⟨fun b => ⟨fun q => absurd q (by decide), fun _ => ?_⟩, fun q => absurd (by rw [i32_lt]; exact kn) q⟩⟩⟩
  have kb : inb 64 k := ⟨k0, by show _ < (64 : Int); omega⟩
  have xk := ix_int k0
  have xr := ix_int hr.1
  have ek1 : (k + 1).toInt = k.toInt + 1 := by rw [i32_add] <;> simp <;> omega
  obtain ⟨f1, f2, f3⟩ := own_ix hr (x := k) (by omega)
  apply c47_in
  rw [f3]
  have tot : ∀ j, j < 64 → gI s 12 (64 * ix r + j) ≠ 0 → own_gt s (ix k) j ∨ own_gt s j (ix k) := fun j hj hj2 => by
    have jn : (j : Int) < (gI s 0 31).toInt := by
      by_cases w : (j : Int) < (gI s 0 31).toInt
      · exact w
      · exact absurd (Z (ix r) (by omega) j (by omega) hj) hj2
    have u := U j (ix k) jn (by omega)
    have : j ≠ ix k := fun w => hj2 (by rw [w]; exact z)
    unfold own_gt
    by_cases p : (gI s 3 j).toInt = (gI s 3 (ix k)).toInt
    · by_cases q : (gI s 2 j).toInt = (gI s 2 (ix k)).toInt
      · exact absurd (u p q) this
      · omega
    · omega
  have go : ∀ u, (∀ c j, c ≠ 10 → c ≠ 12 → gI u c j = gI s c j) → (∀ j, gI u 12 j = if j = 64 * ix r + ix k then 1 else gI s 12 j) → (∀ j, gI u 10 j = if j = ix r ∧ gI s 10 (ix r) < gI s 3 (ix k) then gI s 3 (ix k) else gI s 10 j) → wpcI PP 34 cm34 16 70 [some (.ref 0), some (.int r), some (.int k), none, none] [] u Q := by
    intro u uc u12 u10
    have Fu : own_F N M P u := own_F_z F (fun j => uc 0 j (by decide) (by decide)) (fun j => uc 11 j (by decide) (by decide)) (fun j => uc 16 j (by decide) (by decide))
    have u1 := uc 1 (ix k) (by decide) (by decide)
    have u8 := uc 8 (ix k) (by decide) (by decide)
    have Vu : own_VI N u (ix r) := own_VI_cg (by omega) (D (ix r) (by omega)).1 (uc 11 _ (by decide) (by decide)) (fun c j a _ _ => uc c j (by omega) (by omega))
    have ap : ∀ t, (∀ j, gI t 12 j = gI u 12 j) → ∀ j, j < 64 → (gI t 12 (64 * ix r + j) ≠ 0 ↔ gI s 12 (64 * ix r + j) ≠ 0 ∨ j = ix k) := fun t t12 j hj => by
      rw [t12, u12]
      by_cases w : j = ix k
      · rw [if_pos (by omega)]; exact ⟨fun _ => Or.inr w, fun _ => by decide⟩
      · rw [if_neg (by omega)]; exact ⟨Or.inl, fun q => q.resolve_right w⟩
    have oth : ∀ t, (∀ c j, c < 10 → gI t c j = gI s c j) → (∀ j, gI t 12 j = gI u 12 j) → (∀ j, j ≠ ix r → gI t 11 j = gI u 11 j) → (∀ c j, 13 ≤ c → c ≤ 15 → (j < 64 * ix r ∨ 64 * ix r + 64 ≤ j) → gI t c j = gI u c j) → (∀ j, (j < 256 * ix r ∨ 256 * ix r + 256 ≤ j) → gI t 16 j = gI u 16 j) → ∀ ρ, ρ < 4 → ρ ≠ ix r → own_D N t ρ := fun t tf t12 t11 tc t16 ρ hρ ne => by
      refine own_D_cg (by omega) (D ρ hρ) (by rw [t11 ρ ne, uc 11 _ (by decide) (by decide)]) (fun c j c1 c2 j1 j2 => ?_) (fun j j1 j2 => by rw [t16 j (by omega), uc 16 _ (by decide) (by decide)]) (fun c k c1 c2 _ _ => tf c k (by omega))
      by_cases w : c = 12
      · subst w; rw [t12, u12, if_neg (by omega)]
      · rw [tc c j (by omega) c2 (by omega), uc c j (by omega) (by omega)]
    have chr : gI s 1 (ix k) = 0 ∨ gI s 1 (ix k) = 1 → calV PP 35 16 [.ref 0, .int r, .int k] u (fun t => Q 1 t) := fun kd => by
      refine own_35d N M P u r k Fu hr kb Vu _ fun t tF tc t11 t15 t13 t14 tV => ?_
      rw [u1, u8] at t13 t14
      have tf : ∀ c j, c < 10 → gI t c j = gI s c j := fun c j hc => by rw [tc c j (by omega) (by omega) (by omega) (by omega), uc c j (by omega) (by omega)]
      have t12 : ∀ j, gI t 12 j = gI u 12 j := fun j => tc 12 j (by decide) (by decide) (by decide) (by decide)
      have kd' : gI s 1 (ix k) ≠ 0 ↔ gI s 1 (ix k) = 1 := ⟨fun q => kd.resolve_left q, fun q => by rw [q]; decide⟩
      have t13' : ∀ j, gI t 13 j = if gI s 1 (ix k) = 0 ∧ (0 ≤ (gI s 8 (ix k)).toInt ∧ (gI s 8 (ix k)).toInt < N.toInt) ∧ j = 64 * ix r + ix (gI s 8 (ix k)) then 1 else gI s 13 j := fun j => by rw [t13, uc 13 j (by decide) (by decide)]
      have t14' : ∀ j, gI t 14 j = if gI s 1 (ix k) = 1 ∧ (0 ≤ (gI s 8 (ix k)).toInt ∧ (gI s 8 (ix k)).toInt < N.toInt) ∧ j = 64 * ix r + ix (gI s 8 (ix k)) then 1 else gI s 14 j := fun j => by rw [t14, uc 14 j (by decide) (by decide)]; simp only [kd']
      refine h1 t tF (fun ρ hρ => ?_) ⟨tf, fun j => by rw [t12, u12], fun j => by rw [tc 10 j (by decide) (by decide) (by decide) (by decide), u10], t13', t14'⟩
      by_cases w : ρ = ix r
      rotate_left
      · refine oth t tf t12 t11 (fun c j c1 c2 hj => ?_) (fun j hj => tc 16 j (by decide) (by decide) (by decide) (by decide)) ρ hρ w
        have : c = 13 ∨ c = 14 ∨ c = 15 := by omega
        rcases this with rfl | rfl | rfl
        · rw [t13, if_neg]; rintro ⟨_, q, q2⟩; have := ix_int q.1; omega
        · rw [t14, if_neg]; rintro ⟨_, q, q2⟩; have := ix_int q.1; omega
        · exact t15 j hj
      subst w
      have flag : ∀ (a : Prop) [Decidable a] (v : Int32) (c : Nat), c < ix N → ((if a ∧ (0 ≤ (gI s 8 (ix k)).toInt ∧ (gI s 8 (ix k)).toInt < N.toInt) ∧ 64 * ix r + c = 64 * ix r + ix (gI s 8 (ix k)) then (1 : Int32) else v) ≠ 0 ↔ v ≠ 0 ∨ a ∧ (gI s 8 (ix k)).toInt = c) := fun a _ v c hc => by
        by_cases w : a ∧ (gI s 8 (ix k)).toInt = c
        · have := ix_int (i := gI s 8 (ix k)) (by omega)
          rw [if_pos ⟨w.1, by omega, by omega⟩]
          exact ⟨fun _ => Or.inr w, fun _ => by decide⟩
        · rw [if_neg]
          · exact ⟨Or.inl, fun q => q.resolve_right w⟩
          · rintro ⟨q1, q2, q3⟩
            have := ix_int q2.1
            exact w ⟨q1, by omega⟩
      refine ⟨tV, fun c hc => own_H_ap ((D _ hρ).2.1 c hc) (by omega) ?_ ?_ (ap t t12) tf, fun c τ hc hτ => own_W_ap ((D _ hρ).2.2 c τ hc hτ) (by omega) z (ap t t12) tf tot (fun q => absurd kd ?_) (fun _ => by rw [tc 16 _ (by decide) (by decide) (by decide) (by decide), uc 16 _ (by decide) (by decide)])⟩
      · rw [t13']; exact flag _ _ c hc
      · rw [t14']; exact flag _ _ c hc
      · rintro (y | y)
        · exact q.1.1 y
        · exact q.1.2 y
    refine c34_70 _ _ _ _ ⟨kb, fun q => c34_89 _ _ _ _ (chr (Or.inl (by rw [← u1]; exact q))), fun q => ⟨fun q => c34_89 _ _ _ _ (chr (Or.inr (by rw [← u1]; exact q))), fun q' => ?_⟩⟩
    rw [u1] at q q'
    refine own_36d N M P u r k Fu hr kb _ fun t tF tc t16 tw => ?_
    have tf : ∀ c j, c < 10 → gI t c j = gI s c j := fun c j hc => by rw [tc c j (by omega), uc c j (by omega) (by omega)]
    have t12 : ∀ j, gI t 12 j = gI u 12 j := fun j => tc 12 j (by decide)
    refine h1 t tF (fun ρ hρ => ?_) ⟨tf, fun j => by rw [t12, u12], fun j => by rw [tc 10 j (by decide), u10], fun j => by rw [tc 13 j (by decide), uc 13 j (by decide) (by decide), if_neg (fun y => q y.1)], fun j => by rw [tc 14 j (by decide), uc 14 j (by decide) (by decide), if_neg (fun y => q' y.1)]⟩
    by_cases w : ρ = ix r
    rotate_left
    · exact oth t tf t12 (fun j _ => tc 11 j (by decide)) (fun c j c1 c2 hj => tc c j (by omega)) t16 ρ hρ w
    subst w
    have cvu : ∀ c τ, own_cv u (ix k) c τ ↔ own_cv s (ix k) c τ := fun c τ => by unfold own_cv; rw [uc 4 _ (by decide) (by decide), uc 5 _ (by decide) (by decide), uc 6 _ (by decide) (by decide)]
    have tku : ∀ W, own_tk u (ix k) W ↔ own_tk s (ix k) W := fun W => by unfold own_tk own_gt; rw [uc 3 _ (by decide) (by decide), uc 3 _ (by decide) (by decide), uc 2 _ (by decide) (by decide), uc 2 _ (by decide) (by decide)]
    refine ⟨own_VI_cg (by omega) (D _ hρ).1 (by rw [tc 11 _ (by decide), uc 11 _ (by decide) (by decide)]) (fun c j a _ _ => by rw [tc c j (by omega), uc c j (by omega) (by omega)]), fun c hc => own_H_ap ((D _ hρ).2.1 c hc) (by omega) ?_ ?_ (ap t t12) tf, fun c τ hc hτ => own_W_ap ((D _ hρ).2.2 c τ hc hτ) (by omega) z (ap t t12) tf tot (fun y => ?_) (fun y => ?_)⟩
    · rw [tc 13 _ (by decide), uc 13 _ (by decide) (by decide)]; exact ⟨Or.inl, fun y => y.resolve_right fun w => q w.1⟩
    · rw [tc 14 _ (by decide), uc 14 _ (by decide) (by decide)]; exact ⟨Or.inl, fun y => y.resolve_right fun w => q' w.1⟩
    · have := (tw c τ hc hτ).1
      rw [cvu, tku, uc 16 _ (by decide) (by decide)] at this
      rw [this y.2, ek1]; omega
    · have := (tw c τ hc hτ).2
      rw [cvu, tku, uc 16 _ (by decide) (by decide)] at this
      exact this fun w => y ⟨⟨q, q'⟩, w⟩
  refine ⟨f2, fun _ => ⟨f2, kb, rb, fun lt => ⟨kb, rb, ?_⟩, fun lt => ?_⟩, fun q => absurd z q⟩
  · refine go _ (fun c j a b => by rw [gI_sI, if_neg (fun q => a q.1), gI_sI, if_neg (fun q => b q.1)]) (fun j => ?_) (fun j => ?_)
    · rw [gI_sI, if_neg (by omega), gI_sI]; simp
    · rw [gI_sI, gI_sI, if_neg (show ¬ (10 = 12 ∧ j = 64 * ix r + ix k) by omega)]; simp [lt]
  · refine go _ (fun c j a b => by rw [gI_sI, if_neg (fun q => b q.1)]) (fun j => ?_) (fun j => ?_)
    · rw [gI_sI]; simp
    · rw [gI_sI, if_neg (by omega), if_neg (fun q => lt q.2)]

/-- the whole invariant -/
def own_J (N M P : Int32) (s : St) : Prop := own_F N M P s ∧ own_C s ∧ own_U s ∧ (∀ ρ, ρ < 4 → own_D N s ρ) ∧ (∀ i : Nat, (i : Int) < (gI s 0 40).toInt → 0 ≤ (gI s 9 i).toInt ∧ (gI s 9 i).toInt < (gI s 0 31).toInt)
theorem own_U_cg {s t : St} (U : own_U s) (h31 : gI t 0 31 = gI s 0 31) (h2 : ∀ j, gI t 2 j = gI s 2 j) (h3 : ∀ j, gI t 3 j = gI s 3 j) : own_U t := by
  unfold own_U
  simp only [h31, h2, h3]
  exact U
/-- applyOp -/
theorem own_34j (N M P : Int32) (s : St) (r k : Int32) (J : own_J N M P s) (hr : 0 ≤ r.toInt ∧ r.toInt < 4) (Q : Int32 → St → Prop) (h0 : (0 ≤ k.toInt ∧ k.toInt < (gI s 0 31).toInt → gI s 12 (64 * ix r + ix k) ≠ 0) → Q 0 s) (h1 : 0 ≤ k.toInt → k.toInt < (gI s 0 31).toInt → gI s 12 (64 * ix r + ix k) = 0 → ∀ t, own_J N M P t → own_A N s t (ix r) (ix k) → Q 1 t) : calI PP 34 16 [.ref 0, .int r, .int k] s Q := by
  obtain ⟨F, C, U, D, L⟩ := J
  have xr := ix_int hr.1
  have n64 : (gI s 0 31).toInt ≤ 64 := by have := F.2.2.2.2.2.2.1; have := F.2.2.2.2.1; omega
  by_cases kv : 0 ≤ k.toInt ∧ k.toInt < (gI s 0 31).toInt
  · have xk := ix_int kv.1
    by_cases z : gI s 12 (64 * ix r + ix k) = 0
    · refine own_34e N M P s r k F U C.2.2.2.2.2.2 D hr Q kv.1 kv.2 z fun t Ft Dt A => h1 kv.1 kv.2 z t ⟨Ft, own_C_ap (r := ix r) (k := ix k) C (by omega) (by omega) n64 (A.1 0 _ (by decide)) (fun j => A.1 2 j (by decide)) (fun j => A.1 3 j (by decide)) A.2.1 A.2.2.1, own_U_cg U (A.1 0 _ (by decide)) (fun j => A.1 2 j (by decide)) (fun j => A.1 3 j (by decide)), Dt, fun i => ?_⟩ A
      rw [A.1 0 _ (by decide), A.1 0 _ (by decide), A.1 9 _ (by decide)]; exact L i
    · apply c34_in
      refine own_22 s r _ ?_
      rw [if_pos hr]
      refine ⟨fun q => absurd q (by decide), fun _ => c24_in _ _ _ ⟨fun q => absurd q (by rw [i32_lt]; simp; omega), fun a => ⟨fun b => ⟨fun q => absurd q (by decide), fun _ => ?_⟩, fun q => absurd (by rw [i32_lt]; exact kv.2) q⟩⟩⟩
      obtain ⟨f1, f2, f3⟩ := own_ix hr (x := k) (by omega)
      apply c47_in
      rw [f3]
      exact ⟨f2, fun q => absurd q z, fun _ => h0 fun _ => z⟩
  · replace h0 := h0 fun q => absurd q kv
    apply c34_in
    refine own_22 s r _ ?_
    rw [if_pos hr]
    refine ⟨fun q => absurd q (by decide), fun _ => c24_in _ _ _ ⟨fun _ => ⟨fun _ => h0, fun q => absurd rfl q⟩, fun a => ⟨fun b => absurd ⟨?_, ?_⟩ kv, fun _ => ⟨fun _ => h0, fun q => absurd rfl q⟩⟩⟩⟩
    · rw [i32_lt] at a; simpa using a
    · rw [i32_lt] at b; exact b
theorem own_J_pl {N M P : Int32} {s t : St} (J : own_J N M P s) (tc : ∀ c j, c ≠ 9 → (c = 0 → j ≠ 40) → gI t c j = gI s c j) (t40 : 0 ≤ (gI t 0 40).toInt ∧ (gI t 0 40).toInt ≤ P.toInt) (L : ∀ i : Nat, (i : Int) < (gI t 0 40).toInt → 0 ≤ (gI t 9 i).toInt ∧ (gI t 9 i).toInt < (gI s 0 31).toInt) : own_J N M P t := by
  obtain ⟨F, C, U, D, _⟩ := J
  obtain ⟨Ft, Ct⟩ := own_pl F C tc t40
  have rN := F.2.2.2.1
  have xN := ix_int (i := N) (by omega)
  exact ⟨Ft, Ct, own_U_cg U (tc 0 _ (by decide) (by decide)) (fun j => tc 2 j (by decide) (by omega)) (fun j => tc 3 j (by decide) (by omega)), fun ρ hρ => own_D_cg (by omega) (D ρ hρ) (tc 11 _ (by decide) (by omega)) (fun c j a _ _ _ => tc c j (by omega) (by omega)) (fun j _ _ => tc 16 j (by decide) (by omega)) (fun c k a _ _ _ => tc c k (by omega) (by omega)), fun i hi => by rw [tc 0 31 (by decide) (by decide)]; exact L i hi⟩
/-- op n has been made at replica r -/
def own_N (s t : St) (r n : Nat) (kd : Int32) : Prop := (gI s 0 31).toInt = n ∧ (gI t 0 31).toInt = n + 1 ∧ gI t 1 n = kd ∧ (gI t 2 n).toInt = r ∧ (gI t 3 n).toInt = (gI s 10 r).toInt + 1 ∧ (∀ j, j ≠ n → gI t 3 j = gI s 3 j) ∧ (∀ j, gI t 12 j = if j = 64 * r + n then 1 else gI s 12 j) ∧ (gI t 0 40).toInt = (gI s 0 40).toInt + 1 ∧ (gI t 9 (ix (gI s 0 40))).toInt = n
/-- publish of the op that has just been made -/
theorem own_28j (N M P : Int32) (s u : St) (r n : Int32) (J : own_J N M P s) (hr : 0 ≤ r.toInt ∧ r.toInt < 4) (en : gI s 0 31 = n) (nM : n.toInt < M.toInt) (pM : (gI s 0 40).toInt < P.toInt) (u0 : ∀ j, j ≠ 31 → gI u 0 j = gI s 0 j) (u31 : gI u 0 31 = n + 1) (uf : ∀ c j, 1 ≤ c → c ≤ 8 → j ≠ ix n → gI u c j = gI s c j) (u2n : gI u 2 (ix n) = r) (u3n : gI u 3 (ix n) = gI s 10 (ix r) + 1) (u10 : ∀ j, j ≠ ix r → gI u 10 j = gI s 10 j) (u10r : gI u 10 (ix r) = gI s 10 (ix r) + 1) (uc : ∀ c j, c = 9 ∨ 11 ≤ c → gI u c j = gI s c j) (Q : St → Prop) (h : ∀ t, own_J N M P t → own_N s t (ix r) (ix n) (gI u 1 (ix n)) → (∀ j, gI t 13 j = if gI u 1 (ix n) = 0 ∧ (0 ≤ (gI u 8 (ix n)).toInt ∧ (gI u 8 (ix n)).toInt < N.toInt) ∧ j = 64 * ix r + ix (gI u 8 (ix n)) then 1 else gI s 13 j) → (∀ j, gI t 14 j = if gI u 1 (ix n) = 1 ∧ (0 ≤ (gI u 8 (ix n)).toInt ∧ (gI u 8 (ix n)).toInt < N.toInt) ∧ j = 64 * ix r + ix (gI u 8 (ix n)) then 1 else gI s 14 j) → Q t) : calV PP 28 16 [.ref 0, .int r, .int n] u Q := by
  obtain ⟨F, C, U, D, L⟩ := J
  obtain ⟨a28, a29, a30, rN, rM, rP, r31, r40, r11, r16⟩ := id F
  have xr := ix_int hr.1
  have xN := ix_int (i := N) (by omega)
  have xp := ix_int r40.1
  rw [en] at r31
  have xn := ix_int r31.1
  have e1 : (n + 1).toInt = n.toInt + 1 := by rw [i32_add] <;> simp <;> omega
  have c10 := C.2.1 (ix r) (by omega)
  rw [en] at c10
  have ec : (gI s 10 (ix r) + 1).toInt = (gI s 10 (ix r)).toInt + 1 := by rw [i32_add] <;> simp <;> omega
  have Fu : own_F N M P u := ⟨by rw [u0 _ (by decide), a28], by rw [u0 _ (by decide), a29], by rw [u0 _ (by decide), a30], rN, rM, rP, by rw [u31]; omega, by rw [u0 _ (by decide)]; exact r40, fun ρ hρ => by rw [uc 11 _ (by omega)]; exact r11 ρ hρ, fun j => by rw [uc 16 _ (by omega)]; exact r16 j⟩
  have zn : ∀ ρ, ρ < 4 → gI s 12 (64 * ρ + ix n) = 0 := fun ρ hρ => C.2.2.2.2.2.2 ρ hρ (ix n) (by rw [en]; omega) (by omega)
  have u12z : gI u 12 (64 * ix r + ix n) = 0 := by rw [uc 12 _ (by omega)]; exact zn _ (by omega)
  have Du : ∀ ρ, ρ < 4 → own_D N u ρ := fun ρ hρ => own_D_cg (by omega) (D ρ hρ) (uc 11 _ (by omega)) (fun c j a _ _ _ => uc c j (by omega)) (fun j _ _ => uc 16 j (by omega)) (fun c k a b _ hk => uf c k a b fun w => hk (by rw [w]; exact zn ρ hρ))
  have Zu : own_Zr u := fun ρ hρ k hk h64 => by
    rw [uc 12 _ (by omega)]; exact C.2.2.2.2.2.2 ρ hρ k (by rw [u31] at hk; rw [en]; omega) h64
  have old : ∀ j : Nat, (j : Int) < n.toInt → (gI s 2 j).toInt = r.toInt → (gI s 3 j).toInt ≤ (gI s 10 (ix r)).toInt := fun j hj h2 => by
    have c5 := (C.2.2.2.2.1 j (by rw [en]; exact hj)).2
    have x2 := ix_int (i := gI s 2 j) (by omega)
    rw [show ix (gI s 2 j) = ix r by omega] at c5
    exact C.2.2.1 (ix r) (by omega) j (by rw [en]; exact hj) c5
  have Uu : own_U u := fun j k hj hk h3 h2 => by
    rw [u31, e1] at hj hk
    by_cases wj : j = ix n
    · by_cases wk : k = ix n
      · omega
      · rw [wj, u3n, uf 3 k (by decide) (by decide) wk] at h3
        rw [wj, u2n, uf 2 k (by decide) (by decide) wk] at h2
        have := old k (by omega) h2.symm
        omega
    · by_cases wk : k = ix n
      · rw [wk, u3n, uf 3 j (by decide) (by decide) wj] at h3
        rw [wk, u2n, uf 2 j (by decide) (by decide) wj] at h2
        have := old j (by omega) h2
        omega
      · rw [uf 3 j (by decide) (by decide) wj, uf 3 k (by decide) (by decide) wk] at h3
        rw [uf 2 j (by decide) (by decide) wj, uf 2 k (by decide) (by decide) wk] at h2
        exact U j k (by rw [en]; omega) (by rw [en]; omega) h3 h2
  apply c28_in
  refine own_34e N M P u r n Fu Uu Zu Du hr _ r31.1 (by rw [u31]; omega) u12z fun t Ft Dt A => ?_
  obtain ⟨tf, t12, t10, t13, t14⟩ := A
  have t10' : ∀ j, gI t 10 j = gI u 10 j := fun j => by
    rw [t10, if_neg]
    rintro ⟨_, q⟩
    rw [u10r, u3n, i32_lt] at q
    omega
  have Ct : own_C t := own_C_new (r := ix r) (n := ix n) C (by omega) (by rw [en]; omega) (by omega) (by rw [tf 0 _ (by decide), u31]; omega) (fun j hj => by rw [tf 2 _ (by decide), uf 2 j (by decide) (by decide) hj]) (by rw [tf 2 _ (by decide), u2n]; omega) (fun j hj => by rw [tf 3 _ (by decide), uf 3 j (by decide) (by decide) hj]) (by rw [tf 3 _ (by decide), u3n, ec]) (fun j => by rw [t12, uc 12 _ (by omega)]) (fun j hj => by rw [t10', u10 j hj]) (by rw [t10', u10r, ec])
  have t40 : gI t 0 40 = gI s 0 40 := by rw [tf 0 _ (by decide), u0 _ (by decide)]
  have t31 : gI t 0 31 = n + 1 := by rw [tf 0 _ (by decide), u31]
  have Jt : own_J N M P t := ⟨Ft, Ct, own_U_cg Uu (tf 0 _ (by decide)) (fun j => tf 2 j (by decide)) (fun j => tf 3 j (by decide)), Dt, fun i hi => by
    rw [t40] at hi
    rw [tf 9 _ (by decide), uc 9 _ (by omega), t31]
    have := L i hi; rw [en] at this; omega⟩
  apply c32_in
  rw [t40, Ft.2.2.1]
  have e40 : (gI s 0 40 + 1).toInt = (gI s 0 40).toInt + 1 := by rw [i32_add] <;> simp <;> omega
  refine ⟨fun _ => ⟨⟨r40.1, by show _ < (32 : Int); omega⟩, ?_⟩, fun q => absurd (by rw [i32_lt]; exact pM) q⟩
  have vc : ∀ c j, c ≠ 9 → (c = 0 → j ≠ 40) → gI (sI (sI t 9 (ix (gI s 0 40)) n) 0 40 (gI s 0 40 + 1)) c j = gI t c j := fun c j a b => by rw [gI_sI, if_neg (fun q => b q.1 q.2), gI_sI, if_neg (fun q => a q.1)]
  have v40 : gI (sI (sI t 9 (ix (gI s 0 40)) n) 0 40 (gI s 0 40 + 1)) 0 40 = gI s 0 40 + 1 := by rw [gI_sI, if_pos ⟨rfl, rfl⟩]
  have v9 : ∀ i, gI (sI (sI t 9 (ix (gI s 0 40)) n) 0 40 (gI s 0 40 + 1)) 9 i = if i = ix (gI s 0 40) then n else gI t 9 i := fun i => by
    rw [gI_sI, if_neg (by omega), gI_sI]; simp
  refine h _ (own_J_pl Jt vc (by rw [v40]; omega) (fun i hi => ?_)) ⟨by rw [en]; omega, by rw [vc 0 _ (by decide) (by decide), t31]; omega, by rw [vc 1 _ (by decide) (by omega), tf 1 _ (by decide)], by rw [vc 2 _ (by decide) (by omega), tf 2 _ (by decide), u2n]; omega, by rw [vc 3 _ (by decide) (by omega), tf 3 _ (by decide), u3n, ec], fun j hj => by rw [vc 3 _ (by decide) (by omega), tf 3 _ (by decide), uf 3 j (by decide) (by decide) hj], fun j => by rw [vc 12 _ (by decide) (by omega), t12, uc 12 _ (by omega)], by rw [v40, e40], by rw [v9, if_pos rfl]; omega⟩ (fun j => by rw [vc 13 _ (by decide) (by omega), t13, uc 13 _ (by omega)]) (fun j => by rw [vc 14 _ (by decide) (by omega), t14, uc 14 _ (by omega)])
  rw [v40, e40] at hi
  rw [v9, t31]
  split
  · omega
  · have := Jt.2.2.2.2 i (by rw [t40]; omega); rw [t31] at this; exact this
/-- hasRoom -/
theorem own_21j (N M P : Int32) (s : St) (F : own_F N M P s) (Q : Int32 → St → Prop) (h0 : Q 0 s) (h1 : (gI s 0 31).toInt < M.toInt → (gI s 0 40).toInt < P.toInt → Q 1 s) : calI PP 21 16 [.ref 0] s Q := by
  apply c21_in
  rw [F.2.1, F.2.2.1]
  exact ⟨fun a => ⟨fun b => h1 (by rw [i32_lt] at a; exact a) (by rw [i32_lt] at b; exact b), fun _ => h0⟩, fun _ => h0⟩
/-- a new op, its mark's fields as they may be -/
theorem own_mkj (N M P : Int32) (s : St) (kind r x : Int32) (J : own_J N M P s) (hr : 0 ≤ r.toInt ∧ r.toInt < 4) (nM : (gI s 0 31).toInt < M.toInt) (pM : (gI s 0 40).toInt < P.toInt) (Q : Int32 → St → Prop) (h : ∀ t, inb 64 (gI s 0 31) → (∀ u, (∀ c j, (c < 4 ∨ 7 < c) → gI u c j = gI t c j) → (∀ c j, 4 ≤ c → c ≤ 7 → j ≠ ix (gI s 0 31) → gI u c j = gI t c j) → ∀ R : St → Prop, (∀ w, own_J N M P w → own_N s w (ix r) (ix (gI s 0 31)) kind → (∀ j, gI w 13 j = if kind = 0 ∧ (0 ≤ x.toInt ∧ x.toInt < N.toInt) ∧ j = 64 * ix r + ix x then 1 else gI s 13 j) → (∀ j, gI w 14 j = if kind = 1 ∧ (0 ≤ x.toInt ∧ x.toInt < N.toInt) ∧ j = 64 * ix r + ix x then 1 else gI s 14 j) → R w) → calV PP 28 16 [.ref 0, .int r, .int (gI s 0 31)] u R) → Q (gI s 0 31) t) : calI PP 26 16 [.ref 0, .int kind, .int r, .int x] s Q := by
  have rM := J.1.2.2.2.2.1
  have r31 := J.1.2.2.2.2.2.2.1
  have nb : inb 64 (gI s 0 31) := ⟨r31.1, by show _ < (64 : Int); omega⟩
  refine own_26 s kind r x hr nb Q fun t t0 t31 tc t10 t1 t2 t3 t4 t5 t6 t7 t8 => h t nb fun u uc uf R hR => ?_
  have u1 : gI u 1 (ix (gI s 0 31)) = kind := by rw [uc 1 _ (by omega), t1]
  have u8 : gI u 8 (ix (gI s 0 31)) = x := by rw [uc 8 _ (by omega), t8]
  refine own_28j N M P s u r (gI s 0 31) J hr rfl nM pM (fun j hj => by rw [uc 0 _ (by omega), t0 j hj]) (by rw [uc 0 _ (by omega), t31]) (fun c j c1 c2 hj => ?_) (by rw [uc 2 _ (by omega), t2]) (by rw [uc 3 _ (by omega), t3]) (fun j hj => by rw [uc 10 _ (by omega), tc 10 j (by decide) (by omega) (fun _ => hj)]) (by rw [uc 10 _ (by omega), t10]) (fun c j hc => by rw [uc c j (by omega), tc c j (by omega) (by omega) (by omega)]) R (by rw [u1, u8]; exact hR)
  by_cases w : c < 4 ∨ 7 < c
  · rw [uc c j w, tc c j (by omega) (fun _ => hj) (by omega)]
  · rw [uf c j (by omega) (by omega) hj, tc c j (by omega) (fun _ => hj) (by omega)]
/-- how the number of visible slots changes -/
theorem own_vc {N M P : Int32} {s t : St} {r x : Nat} (J : own_J N M P s) (Jt : own_J N M P t) (hr : r < 4) (hx : (x : Int) < N.toInt) (ne : ∀ c, c ≠ x → own_vb t r c = own_vb s r c) (a b : Bool) (ea : own_vb s r x = a) (eb : own_vb t r x = b) : (gI t 11 r).toInt = (gI s 11 r).toInt + ((if b then 1 else 0) - (if a then 1 else 0)) := by
  have rN := J.1.2.2.2.1
  have xN := ix_int (i := N) (by omega)
  have v := (J.2.2.2.1 r hr).1.1
  have v' := (Jt.2.2.2.1 r hr).1.1
  cases a <;> cases b
  · have := own_ct_cg (f := own_vb t r) (g := own_vb s r) (ix N) fun c _ => by
      by_cases w : c = x
      · rw [w, ea, eb]
      · exact ne c w
    simp; omega
  · have := own_ct_up (f := own_vb s r) (g := own_vb t r) ea eb (ix N) (by omega) (fun c _ hc => (ne c hc).symm)
    simp; omega
  · have := own_ct_up (f := own_vb t r) (g := own_vb s r) eb ea (ix N) (by omega) (fun c _ hc => ne c hc)
    simp; omega
  · have := own_ct_cg (f := own_vb t r) (g := own_vb s r) (ix N) fun c _ => by
      by_cases w : c = x
      · rw [w, ea, eb]
      · exact ne c w
    simp; omega
/-- insert -/
theorem own_j2 (N M P : Int32) (s : St) (r x : Int32) (J : own_J N M P s) (Q : Int32 → St → Prop) (h0 : Q (-1) s) (h : ∀ t, own_J N M P t → own_N s t (ix r) (ix (gI s 0 31)) 0 → (gI t 11 (ix r)).toInt = (gI s 11 (ix r)).toInt + 1 → Q (gI s 0 31) t) : calI PP 2 16 [.ref 0, .int r, .int x] s Q := by
  have F := J.1
  apply c2_in
  apply c18_in
  refine own_22 s r _ ?_
  by_cases hr : 0 ≤ r.toInt ∧ r.toInt < 4
  rotate_left
  · rw [if_neg hr]; exact ⟨fun _ => ⟨fun _ => h0, fun q => absurd rfl q⟩, fun q => absurd rfl q⟩
  rw [if_pos hr]
  refine ⟨fun q => absurd q (by decide), fun _ => own_23 s x N F.1 _ ?_⟩
  by_cases hx : 0 ≤ x.toInt ∧ x.toInt < N.toInt
  rotate_left
  · rw [if_neg hx]; exact ⟨fun _ => ⟨fun _ => h0, fun q => absurd rfl q⟩, fun q => absurd rfl q⟩
  rw [if_pos hx]
  have rN := F.2.2.2.1
  have xx := ix_int hx.1
  have xr := ix_int hr.1
  refine ⟨fun q => absurd q (by decide), fun _ => own_38 s r x hr (by omega) _ ⟨fun st => ?_, fun _ => ⟨fun _ => h0, fun q => absurd rfl q⟩⟩⟩
  refine own_21j N M P s F _ ⟨fun _ => h0, fun q => absurd (by decide) q⟩ fun nM pM => ⟨fun q => absurd q (by decide), fun _ => ?_⟩
  refine own_mkj N M P s 0 r x J hr nM pM _ fun t nb go => go t (fun _ _ _ => rfl) (fun _ _ _ _ _ => rfl) _ fun w Jw Nw w13 w14 => h w Jw Nw ?_
  have w14' : ∀ j, gI w 14 j = gI s 14 j := fun j => by rw [w14, if_neg (fun q => absurd q.1 (by decide))]
  have e14 : gI s 14 (64 * ix r + ix x) = 0 := by
    unfold own_st at st
    by_cases z : gI s 14 (64 * ix r + ix x) = 0
    · exact z
    · rw [if_neg z] at st; exact absurd st (by decide)
  have nv : own_vb s (ix r) (ix x) = false := by
    cases w : own_vb s (ix r) (ix x)
    · rfl
    · have := (own_vb_st s r x hx.1).mpr w; rw [this] at st; exact absurd st (by decide)
  have yv : own_vb w (ix r) (ix x) = true := by
    unfold own_vb; rw [w14', w13, if_pos ⟨rfl, hx, rfl⟩, e14]; simp
  have := own_vc J Jw (r := ix r) (x := ix x) (by omega) (by omega) (fun c hc => own_vb_cg (by rw [w13, if_neg (fun q => by have := q.2.2; omega)]) (w14' _)) _ _ nv yv
  simpa using this
/-- slotAtPosition -/
theorem own_40j (N M P : Int32) (s : St) (r p : Int32) (J : own_J N M P s) (hr : 0 ≤ r.toInt ∧ r.toInt < 4) (Q : Int32 → St → Prop) (h0 : Q (-1) s) (h : ∀ v : Int32, 0 ≤ v.toInt → v.toInt < N.toInt → own_vb s (ix r) (ix v) = true → Q v s) : calI PP 40 16 [.ref 0, .int r, .int p] s Q := by
  have F := J.1
  have xr := ix_int hr.1
  have rN := F.2.2.2.1
  have xN := ix_int (i := N) (by omega)
  have r11 := F.2.2.2.2.2.2.2.2.1 (ix r) (by omega)
  apply c40_in
  refine ⟨fun _ => h0, fun a => ⟨hr, fun b => c49_in _ _ _ _ ?_, fun _ => h0⟩⟩
  rw [i32_lt] at a b; simp at a
  obtain ⟨f1, f2, f3⟩ := own_ix hr (x := p) (by omega)
  have xp := ix_int a
  obtain ⟨v1, v2⟩ := (J.2.2.2.1 (ix r) (by omega)).1
  have e := v2.1 (ix p) (by omega)
  unfold own_e at e
  rw [f3]
  have xe := ix_int e.1
  have e2 := e.2.1
  exact ⟨f2, h _ e.1 (by omega) e.2.2⟩
/-- erase -/
theorem own_j3 (N M P : Int32) (s : St) (r x : Int32) (J : own_J N M P s) (Q : Int32 → St → Prop) (h0 : Q (-1) s) (h : ∀ t, own_J N M P t → own_N s t (ix r) (ix (gI s 0 31)) 1 → (gI t 11 (ix r)).toInt = (gI s 11 (ix r)).toInt - 1 → Q (gI s 0 31) t) : calI PP 3 16 [.ref 0, .int r, .int x] s Q := by
  have F := J.1
  apply c3_in
  apply c19_in
  refine own_22 s r _ ?_
  by_cases hr : 0 ≤ r.toInt ∧ r.toInt < 4
  rotate_left
  · rw [if_neg hr]; exact ⟨fun _ => ⟨fun _ => h0, fun q => absurd rfl q⟩, fun q => absurd rfl q⟩
  rw [if_pos hr]
  have xr := ix_int hr.1
  refine ⟨fun q => absurd q (by decide), fun _ => ⟨fun _ => ⟨fun _ => h0, fun q => absurd rfl q⟩, fun _ => ⟨hr, fun _ => ?_, fun _ => ⟨fun _ => h0, fun q => absurd rfl q⟩⟩⟩⟩
  refine own_21j N M P s F _ ⟨fun _ => h0, fun q => absurd (by decide) q⟩ fun nM pM => ⟨fun q => absurd q (by decide), fun _ => ?_⟩
  refine own_40j N M P s r x J hr _ ⟨fun _ => h0, fun q => absurd (by decide) q⟩ fun v v0 vN vv => ⟨fun _ => h0, fun _ => ?_⟩
  have xv := ix_int v0
  refine own_mkj N M P s 1 r v J hr nM pM _ fun t nb go => go t (fun _ _ _ => rfl) (fun _ _ _ _ _ => rfl) _ fun w Jw Nw w13 w14 => h w Jw Nw ?_
  have w13' : ∀ j, gI w 13 j = gI s 13 j := fun j => by rw [w13, if_neg (fun q => absurd q.1 (by decide))]
  have yv : own_vb w (ix r) (ix v) = false := by
    unfold own_vb; rw [w14, if_pos ⟨rfl, ⟨v0, vN⟩, rfl⟩]; rfl
  have := own_vc J Jw (r := ix r) (x := ix v) (by omega) (by omega) (fun c hc => own_vb_cg (w13' _) (by rw [w14, if_neg (fun q => by have := q.2.2; omega)])) _ _ vv yv
  simp at this
  omega
/-- mark -/
theorem own_j4 (N M P : Int32) (s : St) (r a f t : Int32) (J : own_J N M P s) (Q : Int32 → St → Prop) (h0 : Q (-1) s) (h : ∀ w, own_J N M P w → own_N s w (ix r) (ix (gI s 0 31)) (if a / 4 = 0 then 3 else 2) → (gI w 11 (ix r)).toInt = (gI s 11 (ix r)).toInt → Q (gI s 0 31) w) : calI PP 4 16 [.ref 0, .int r, .int a, .int f, .int t] s Q := by
  have F := J.1
  apply c4_in
  apply c20_in
  refine own_22 s r _ ?_
  by_cases hr : 0 ≤ r.toInt ∧ r.toInt < 4
  rotate_left
  · rw [if_neg hr]; exact ⟨fun _ => ⟨fun _ => h0, fun q => absurd rfl q⟩, fun q => absurd rfl q⟩
  rw [if_pos hr]
  have xr := ix_int hr.1
  have go : wpcI PP 20 cm20 16 39 [some (.ref 0), some (.int r), none, some (.int f), some (.int t)] [] s (fun v421 s420 => ((v421 = (0 : Int32)) → Q (-1 : Int32) s420) ∧ (¬ (v421 = (0 : Int32)) → calI PP 40 16 [.ref 0, .int r, .int f] s420 (fun v427 s426 => calI PP 40 16 [.ref 0, .int r, .int t] s426 (fun v430 s429 => ((v427 < (0 : Int32)) → Q (-1 : Int32) s429) ∧ (¬ (v427 < (0 : Int32)) → ((v430 < (0 : Int32)) → Q (-1 : Int32) s429) ∧ (¬ (v430 < (0 : Int32)) → ∀ m438, m438 = (if (a / (4 : Int32)) = (0 : Int32) then (3 : Int32) else (2 : Int32)) → (calI PP 44 16 [.ref 0, .int r, .int (a % (4 : Int32)), .int v430] s429 (fun v442 s441 => calI PP 26 16 [.ref 0, .int m438, .int r, .int (0 : Int32)] s441 (fun v445 s444 => calV PP 27 16 [.ref 0, .int v445, .int (a % (4 : Int32)), .int ((3 : Int32) * v427), .int v442] s444 (fun s447 => inb 64 v445 ∧ calV PP 28 16 [.ref 0, .int r, .int v445] (sI s447 7 (ix v445) (a / (4 : Int32))) (fun s451 => Q v445 s451))))))))))) := by
    refine c20_39 _ _ _ _ _ ⟨fun _ => ⟨fun _ => h0, fun q => absurd rfl q⟩, fun _ => ⟨fun _ => ⟨fun _ => h0, fun q => absurd rfl q⟩, fun _ => ⟨hr, fun _ => ?_, fun _ => ⟨fun _ => h0, fun q => absurd rfl q⟩⟩⟩⟩
    refine own_21j N M P s F _ ⟨fun _ => h0, fun q => absurd (by decide) q⟩ fun nM pM => ⟨fun q => absurd q (by decide), fun _ => ?_⟩
    refine own_40 N M P s r f F hr _ fun v => own_40 N M P s r t F hr _ fun w => ⟨fun _ => h0, fun _ => ⟨fun _ => h0, fun _ m em => ?_⟩⟩
    refine own_44 N M P s r _ w F hr _ fun e => ?_
    refine own_mkj N M P s m r 0 J hr nM pM _ fun t nb go => c27_in _ _ _ _ _ _ ⟨nb, nb, nb, nb, go _ (fun c j hc => ?_) (fun c j c1 c2 hj => ?_) _ fun w Jw Nw w13 w14 => h w Jw (by rw [← em]; exact Nw) ?_⟩
    · rw [gI_sI, if_neg (by omega), gI_sI, if_neg (by omega), gI_sI, if_neg (by omega), gI_sI, if_neg (by omega)]
    · rw [gI_sI, if_neg (by omega), gI_sI, if_neg (by omega), gI_sI, if_neg (by omega), gI_sI, if_neg (by omega)]
    · have m01 : m ≠ 0 ∧ m ≠ 1 := by
        rw [em]; split <;> decide
      have := own_vc J Jw (r := ix r) (x := 0) (by omega) (by have := F.2.2.2.1; omega) (fun c _ => own_vb_cg (by rw [w13, if_neg (fun q => m01.1 q.1)]) (by rw [w14, if_neg (fun q => m01.2 q.1)])) _ _ rfl rfl
      rw [own_vb_cg (s := s) (t := w) (by rw [w13, if_neg (fun q => m01.1 q.1)]) (by rw [w14, if_neg (fun q => m01.2 q.1)])] at this
      omega
  exact ⟨fun q => absurd q (by decide), fun _ => ⟨fun _ => ⟨fun _ => h0, fun q => absurd rfl q⟩, fun _ => ⟨fun _ => ⟨fun _ => h0, fun q => absurd rfl q⟩, fun _ => ⟨fun _ => go, fun _ => ⟨fun _ => ⟨fun _ => h0, fun q => absurd rfl q⟩, fun _ => go⟩⟩⟩⟩⟩
/-- removeEntry -/
theorem own_33j (N M P : Int32) (s : St) (e : Int32) (J : own_J N M P s) (he : 0 ≤ e.toInt ∧ e.toInt < (gI s 0 40).toInt) (Q : St → Prop) (h : ∀ t, own_J N M P t → (∀ c j, c ≠ 9 → (c = 0 → j ≠ 40) → gI t c j = gI s c j) → (gI t 0 40).toInt = (gI s 0 40).toInt - 1 → Q t) : calV PP 33 16 [.ref 0, .int e] s Q := by
  have F := J.1
  have r40 := F.2.2.2.2.2.2.2.1
  have rP := F.2.2.2.2.2.1
  have el : (gI s 0 40 - 1).toInt = (gI s 0 40).toInt - 1 := by rw [i32_sub] <;> simp <;> omega
  apply c33_in
  apply c25_in
  refine ⟨fun q => absurd q (by rw [i32_lt]; simp; omega), fun a => ⟨fun b => ⟨fun q => absurd q (by decide), fun _ => ?_⟩, fun q => absurd (by rw [i32_lt]; omega) q⟩⟩
  refine loop_up (F := fun i => ∀ u, (∀ c j, c ≠ 9 → gI u c j = gI s c j) → (∀ i : Nat, (i : Int) < (gI s 0 40).toInt → 0 ≤ (gI u 9 i).toInt ∧ (gI u 9 i).toInt < (gI s 0 31).toInt) → wpcV PP 33 cm33 16 18 [some (.ref 0), none, some (.int (gI s 0 40 - 1)), some (.int i)] [] u Q) ((gI s 0 40).toInt - 1) (by omega) (fun i i0 i1 ei ih u ua ul => ?_) (fun i hi u ua ul => ?_) e he.1 (by omega) s (fun _ _ _ => rfl) J.2.2.2.2
  · have xi := ix_int i0
    have xj := ix_int (i := i + 1) (by omega)
    refine c33_18 _ _ _ _ ⟨fun _ => ⟨⟨by omega, by show _ < (32 : Int); omega⟩, ⟨i0, by show _ < (32 : Int); omega⟩, ih _ (fun c j a => by rw [gI_sI, if_neg (fun q => a q.1), ua c j a]) fun k hk => ?_⟩, fun q => absurd (by rw [i32_lt]; omega) q⟩
    rw [gI_sI]; split
    · exact ul _ (by omega)
    · exact ul k hk
  · refine c33_18 _ _ _ _ ⟨fun q => absurd q (by rw [i32_lt]; omega), fun _ => ⟨⟨by omega, by show _ < (32 : Int); omega⟩, ?_⟩⟩
    have xl := ix_int (i := gI s 0 40 - 1) (by omega)
    have tc : ∀ c j, c ≠ 9 → (c = 0 → j ≠ 40) → gI (sI (sI u 9 (ix (gI s 0 40 - 1)) 0) 0 40 (gI s 0 40 - 1)) c j = gI s c j := fun c j c1 c2 => by rw [gI_sI, if_neg (fun q => c2 q.1 q.2), gI_sI, if_neg (fun q => c1 q.1), ua c j c1]
    have t40 : gI (sI (sI u 9 (ix (gI s 0 40 - 1)) 0) 0 40 (gI s 0 40 - 1)) 0 40 = gI s 0 40 - 1 := by rw [gI_sI, if_pos ⟨rfl, rfl⟩]
    refine h _ (own_J_pl J tc (by rw [t40]; omega) fun k hk => ?_) tc (by rw [t40, el])
    rw [t40, el] at hk
    rw [gI_sI, if_neg (by omega), gI_sI, if_neg (by omega)]
    exact ul k (by omega)
/-- deliver -/
theorem own_j5 (N M P : Int32) (s : St) (e r : Int32) (J : own_J N M P s) (hr : 0 ≤ r.toInt ∧ r.toInt < 4) (Q : Int32 → St → Prop) (h0 : ¬ (0 ≤ e.toInt ∧ e.toInt < (gI s 0 40).toInt) → Q 0 s) (h : 0 ≤ e.toInt → e.toInt < (gI s 0 40).toInt → ∀ t, own_J N M P t → gI t 0 31 = gI s 0 31 → (gI t 0 40).toInt = (gI s 0 40).toInt - 1 → (∀ j, gI t 3 j = gI s 3 j) → (∀ j, gI t 12 j = if j = 64 * ix r + ix (gI s 9 (ix e)) then 1 else gI s 12 j) → Q 1 t) : calI PP 5 16 [.ref 0, .int e, .int r] s Q := by
  have F := J.1
  have r40 := F.2.2.2.2.2.2.2.1
  have rP := F.2.2.2.2.2.1
  apply c5_in
  apply c25_in
  refine ⟨fun a => ⟨fun _ => h0 fun q => ?_, fun q => absurd rfl q⟩, fun a => ⟨fun b => ⟨fun q => absurd q (by decide), fun _ => ?_⟩, fun b => ⟨fun _ => h0 fun q => ?_, fun q => absurd rfl q⟩⟩⟩
  · rw [i32_lt] at a; simp at a; omega
  rotate_left
  · rw [i32_lt] at b; exact b q.2
  have he : 0 ≤ e.toInt ∧ e.toInt < (gI s 0 40).toInt := by rw [i32_lt] at a b; simp at a; exact ⟨a, b⟩
  refine own_22 s r _ ?_
  rw [if_pos hr]
  have xe := ix_int he.1
  have l := J.2.2.2.2 (ix e) (by omega)
  refine ⟨fun q => absurd q (by decide), fun _ => ⟨⟨he.1, by show _ < (32 : Int); omega⟩, own_33j N M P s e J he _ fun t Jt tc t40 => ?_⟩⟩
  have t31 := tc 0 31 (by decide) (by decide)
  have t12 : ∀ j, gI t 12 j = gI s 12 j := fun j => tc 12 j (by decide) (by omega)
  refine own_34j N M P t r _ Jt hr _ (fun z => h he.1 he.2 t Jt t31 t40 (fun j => tc 3 j (by decide) (by omega)) fun j => ?_) (fun k0 k1 z w Jw A => h he.1 he.2 w Jw (by rw [A.1 0 _ (by decide), t31]) (by rw [A.1 0 _ (by decide), t40]) (fun j => by rw [A.1 3 _ (by decide), tc 3 j (by decide) (by omega)]) fun j => by rw [A.2.1, t12])
  rw [t12]
  by_cases w : j = 64 * ix r + ix (gI s 9 (ix e))
  · rw [if_pos w]
    have := z (by rw [t31]; exact l)
    rw [t12, ← w] at this
    exact (J.2.1.1 j).resolve_left this
  · rw [if_neg w]
/-- duplicate -/
theorem own_j6 (N M P : Int32) (s : St) (e : Int32) (J : own_J N M P s) (Q : Int32 → St → Prop) (h0 : ¬ (0 ≤ e.toInt ∧ e.toInt < (gI s 0 40).toInt ∧ (gI s 0 40).toInt < P.toInt) → Q 0 s) (h : 0 ≤ e.toInt → e.toInt < (gI s 0 40).toInt → (gI s 0 40).toInt < P.toInt → ∀ t, own_J N M P t → (∀ c j, c ≠ 9 → (c = 0 → j ≠ 40) → gI t c j = gI s c j) → (gI t 0 40).toInt = (gI s 0 40).toInt + 1 → Q 1 t) : calI PP 6 16 [.ref 0, .int e] s Q := by
  have F := J.1
  have r40 := F.2.2.2.2.2.2.2.1
  have rP := F.2.2.2.2.2.1
  apply c6_in
  apply c25_in
  refine ⟨fun a => ⟨fun _ => h0 fun q => ?_, fun q => absurd rfl q⟩, fun a => ⟨fun b => ⟨fun q => absurd q (by decide), fun _ => ?_⟩, fun b => ⟨fun _ => h0 fun q => ?_, fun q => absurd rfl q⟩⟩⟩
  · rw [i32_lt] at a; simp at a; omega
  rotate_left
  · rw [i32_lt] at b; exact b q.2.1
  have he : 0 ≤ e.toInt ∧ e.toInt < (gI s 0 40).toInt := by rw [i32_lt] at a b; simp at a; exact ⟨a, b⟩
  have xe := ix_int he.1
  have xp := ix_int r40.1
  rw [F.2.2.1]
  refine ⟨fun lt => ⟨⟨he.1, by show _ < (32 : Int); omega⟩, c32_in _ _ _ ⟨fun _ => ⟨⟨r40.1, ?_⟩, ?_⟩, fun q => absurd (by rw [F.2.2.1]; exact lt) q⟩⟩, fun lt => h0 fun q => lt (by rw [i32_lt]; exact q.2.2)⟩
  · rw [i32_lt] at lt; show _ < (32 : Int); omega
  · rw [i32_lt] at lt
    have e40 : (gI s 0 40 + 1).toInt = (gI s 0 40).toInt + 1 := by rw [i32_add] <;> simp <;> omega
    have tc : ∀ c j, c ≠ 9 → (c = 0 → j ≠ 40) → gI (sI (sI s 9 (ix (gI s 0 40)) (gI s 9 (ix e))) 0 40 (gI s 0 40 + 1)) c j = gI s c j := fun c j c1 c2 => by rw [gI_sI, if_neg (fun q => c2 q.1 q.2), gI_sI, if_neg (fun q => c1 q.1)]
    have t40 : gI (sI (sI s 9 (ix (gI s 0 40)) (gI s 9 (ix e))) 0 40 (gI s 0 40 + 1)) 0 40 = gI s 0 40 + 1 := by rw [gI_sI, if_pos ⟨rfl, rfl⟩]
    refine h he.1 he.2 lt _ (own_J_pl J tc (by rw [t40]; omega) fun i hi => ?_) tc (by rw [t40, e40])
    rw [t40, e40] at hi
    rw [gI_sI, if_neg (by omega), gI_sI]
    split
    · exact J.2.2.2.2 _ (by omega)
    · exact J.2.2.2.2 _ (by omega)
/-- discard -/
theorem own_j7 (N M P : Int32) (s : St) (e : Int32) (J : own_J N M P s) (Q : Int32 → St → Prop) (h0 : ¬ (0 ≤ e.toInt ∧ e.toInt < (gI s 0 40).toInt) → Q 0 s) (h : 0 ≤ e.toInt → e.toInt < (gI s 0 40).toInt → ∀ t, own_J N M P t → (∀ c j, c ≠ 9 → (c = 0 → j ≠ 40) → gI t c j = gI s c j) → (gI t 0 40).toInt = (gI s 0 40).toInt - 1 → Q 1 t) : calI PP 7 16 [.ref 0, .int e] s Q := by
  apply c7_in
  apply c25_in
  refine ⟨fun a => ⟨fun _ => h0 fun q => ?_, fun q => absurd rfl q⟩, fun a => ⟨fun b => ⟨fun q => absurd q (by decide), fun _ => ?_⟩, fun b => ⟨fun _ => h0 fun q => ?_, fun q => absurd rfl q⟩⟩⟩
  · rw [i32_lt] at a; simp at a; omega
  rotate_left
  · rw [i32_lt] at b; exact b q.2
  have he : 0 ≤ e.toInt ∧ e.toInt < (gI s 0 40).toInt := by rw [i32_lt] at a b; simp at a; exact ⟨a, b⟩
  exact own_33j N M P s e J he _ fun t Jt tc t40 => h he.1 he.2 t Jt tc t40
/-- sync -/
theorem own_j8 (N M P : Int32) (s : St) (a b : Int32) (J : own_J N M P s) (ha : 0 ≤ a.toInt ∧ a.toInt < 4) (hb : 0 ≤ b.toInt ∧ b.toInt < 4) (Q : Int32 → St → Prop) (h0 : a = b → Q (-1) s) (h : a ≠ b → ∀ (v : Int32) t, own_J N M P t → (∀ c j, c < 10 → gI t c j = gI s c j) → (∀ j, gI t 12 j = if 64 * ix b ≤ j ∧ j < 64 * ix b + 64 ∧ gI s 12 (64 * ix a + (j - 64 * ix b)) ≠ 0 then 1 else gI s 12 j) → v.toInt = own_ct (fun k => gI s 12 (64 * ix a + k) != 0 && gI s 12 (64 * ix b + k) == 0) 64 → Q v t) : calI PP 8 16 [.ref 0, .int a, .int b] s Q := by
  have F := J.1
  have rM := F.2.2.2.2.1
  have r31 := F.2.2.2.2.2.2.1
  have xa := ix_int ha.1
  have xb := ix_int hb.1
  apply c8_in
  refine own_22 s a _ ?_
  rw [if_pos ha]
  refine ⟨fun q => absurd q (by decide), fun _ => own_22 s b _ ?_⟩
  rw [if_pos hb]
  refine ⟨fun q => absurd q (by decide), fun _ => ⟨fun e => h0 e, fun ne => ?_⟩⟩
  have nab : ix a ≠ ix b := fun w => ne (Int32.toInt_inj.mp (by omega))
  let f : Nat → Bool := fun k => gI s 12 (64 * ix a + k) != 0 && gI s 12 (64 * ix b + k) == 0
  have fin : ∀ (x : Int32) u, own_J N M P u → (∀ c j, c < 10 → gI u c j = gI s c j) → (∀ j, gI u 12 j = if 64 * ix b ≤ j ∧ (j : Int) < 64 * ix b + (gI s 0 31).toInt ∧ gI s 12 (64 * ix a + (j - 64 * ix b)) ≠ 0 then 1 else gI s 12 j) → x.toInt = own_ct f (ix (gI s 0 31)) → Q x u := fun x u Ju uf u12 ex => by
    have x31 := ix_int r31.1
    have z := J.2.1.2.2.2.2.2.2 (ix a) (by omega)
    refine h ne x u Ju uf (fun j => ?_) ?_
    · rw [u12]
      by_cases w : 64 * ix b ≤ j ∧ j < 64 * ix b + 64 ∧ gI s 12 (64 * ix a + (j - 64 * ix b)) ≠ 0
      · rw [if_pos w, if_pos]
        refine ⟨w.1, ?_, w.2.2⟩
        by_cases y : (j : Int) < 64 * ix b + (gI s 0 31).toInt
        · exact y
        · exact absurd (z (j - 64 * ix b) (by omega) (by omega)) w.2.2
      · rw [if_neg w, if_neg]
        rintro ⟨y1, y2, y3⟩
        exact w ⟨y1, by omega, y3⟩
    · rw [ex]
      have : ∀ m n, m ≤ n → n ≤ 64 → ix (gI s 0 31) ≤ m → own_ct f m = own_ct f n := by
        intro m n mn
        induction n with
        | zero => intro _ _; rw [show m = 0 by omega]
        | succ n ih =>
          intro n64 lo
          by_cases w : m = n + 1
          · rw [w]
          · rw [ih (by omega) (by omega) lo]
            show _ = own_ct f n + _
            have : f n = false := by
              show (gI s 12 (64 * ix a + n) != 0 && _) = false
              rw [z n (by omega) (by omega)]; rfl
            rw [this]; rfl
      rw [this (ix (gI s 0 31)) 64 (by omega) (by omega) (by omega)]
  refine loop_up (F := fun i => ∀ (x : Int32) (u : St), own_J N M P u → (∀ c j, c < 10 → gI u c j = gI s c j) → (∀ j, gI u 12 j = if 64 * ix b ≤ j ∧ (j : Int) < 64 * ix b + i.toInt ∧ gI s 12 (64 * ix a + (j - 64 * ix b)) ≠ 0 then 1 else gI s 12 j) → x.toInt = own_ct f (ix i) → wpcI PP 8 cm8 16 32 [some (.ref 0), some (.int a), some (.int b), some (.int x), some (.int i)] [] u Q) (gI s 0 31).toInt (by omega) (fun i i0 i1 e ih x u Ju uf u12 ex => ?_) (fun i hi x u Ju uf u12 ex => ?_) 0 (by decide) (by simpa using r31.1) 0 s J (fun _ _ _ => rfl) (fun j => ?_) rfl
  · obtain ⟨f1, f2, f3⟩ := own_ix ha (x := i) (by omega)
    have xi := ix_int i0
    have xj := ix_int (i := i + 1) (by omega)
    have cs : own_ct f (ix (i + 1)) = own_ct f (ix i) + (if f (ix i) then 1 else 0) := by rw [show ix (i + 1) = ix i + 1 by omega]; rfl
    have le := own_ct_le (f := f) (ix i)
    have u31 := uf 0 31 (by decide)
    have ua : gI u 12 (64 * ix a + ix i) = gI s 12 (64 * ix a + ix i) := by rw [u12, if_neg (by omega)]
    have ub : gI u 12 (64 * ix b + ix i) = gI s 12 (64 * ix b + ix i) := by rw [u12, if_neg (by omega)]
    refine c8_32 _ _ _ _ _ _ ⟨fun _ => c47_in _ _ _ _ ⟨f2, fun z => c8_72 _ _ _ _ _ _ (ih x u Ju uf (fun j => ?_) ?_), fun z => ?_⟩, fun q => absurd (by rw [u31, i32_lt]; exact i1) q⟩
    · rw [f3, ua] at z
      rw [u12]
      by_cases w : j = 64 * ix b + ix i
      · rw [if_neg (by omega), if_neg]
        rintro ⟨_, _, q⟩
        rw [w, show 64 * ix b + ix i - 64 * ix b = ix i by omega] at q
        exact q z
      · have : (64 * ix b ≤ j ∧ (j : Int) < 64 * ix b + i.toInt ∧ gI s 12 (64 * ix a + (j - 64 * ix b)) ≠ 0) ↔ (64 * ix b ≤ j ∧ (j : Int) < 64 * ix b + (i + 1).toInt ∧ gI s 12 (64 * ix a + (j - 64 * ix b)) ≠ 0) := ⟨fun q => ⟨q.1, by omega, q.2.2⟩, fun q => ⟨q.1, by omega, q.2.2⟩⟩
        simp only [this]
    · rw [f3, ua] at z
      rw [cs, show f (ix i) = false by show (gI s 12 (64 * ix a + ix i) != 0 && _) = false; rw [z]; rfl, ex]; rfl
    · rw [f3, ua] at z
      have pt : ∀ j, gI s 12 (64 * ix a + ix i) ≠ 0 → ((64 * ix b ≤ j ∧ (j : Int) < 64 * ix b + (i + 1).toInt ∧ gI s 12 (64 * ix a + (j - 64 * ix b)) ≠ 0) ↔ (j = 64 * ix b + ix i ∨ 64 * ix b ≤ j ∧ (j : Int) < 64 * ix b + i.toInt ∧ gI s 12 (64 * ix a + (j - 64 * ix b)) ≠ 0)) := fun j hz => by
        constructor
        · rintro ⟨q1, q2, q3⟩
          by_cases w : j = 64 * ix b + ix i
          · exact Or.inl w
          · exact Or.inr ⟨q1, by omega, q3⟩
        · rintro (w | ⟨q1, q2, q3⟩)
          · exact ⟨by omega, by omega, by rw [w, show 64 * ix b + ix i - 64 * ix b = ix i by omega]; exact hz⟩
          · exact ⟨q1, by omega, q3⟩
      refine own_34j N M P u b i Ju hb _ (fun z' m em => c8_72 _ _ _ _ _ _ (ih m u Ju uf (fun j => ?_) ?_)) (fun k0 k1 z' w Jw A m em => c8_72 _ _ _ _ _ _ (ih m w Jw (fun c j hc => by rw [A.1 c j hc, uf c j hc]) (fun j => ?_) ?_))
      · have zb := z' (by rw [u31]; omega)
        rw [ub] at zb
        rw [u12]
        simp only [pt j z]
        by_cases w : j = 64 * ix b + ix i
        · rw [if_neg (by omega), if_pos (Or.inl w), w]
          exact (J.2.1.1 _).resolve_left zb
        · have : (j = 64 * ix b + ix i ∨ 64 * ix b ≤ j ∧ (j : Int) < 64 * ix b + i.toInt ∧ gI s 12 (64 * ix a + (j - 64 * ix b)) ≠ 0) ↔ (64 * ix b ≤ j ∧ (j : Int) < 64 * ix b + i.toInt ∧ gI s 12 (64 * ix a + (j - 64 * ix b)) ≠ 0) := ⟨fun q => q.resolve_left w, Or.inr⟩
          simp only [this]
      · have zb := z' (by rw [u31]; omega)
        rw [ub] at zb
        rw [if_pos rfl] at em
        rw [em, cs, ex, show f (ix i) = false by show (_ && gI s 12 (64 * ix b + ix i) == 0) = false; simp [zb]]; rfl
      · rw [A.2.1, u12]
        simp only [pt j z]
        by_cases w : j = 64 * ix b + ix i
        · rw [if_pos w, if_pos (Or.inl w)]
        · rw [if_neg w]
          have : (j = 64 * ix b + ix i ∨ 64 * ix b ≤ j ∧ (j : Int) < 64 * ix b + i.toInt ∧ gI s 12 (64 * ix a + (j - 64 * ix b)) ≠ 0) ↔ (64 * ix b ≤ j ∧ (j : Int) < 64 * ix b + i.toInt ∧ gI s 12 (64 * ix a + (j - 64 * ix b)) ≠ 0) := ⟨fun q => q.resolve_left w, Or.inr⟩
          simp only [this]
      · rw [ub] at z'
        rw [if_neg (by decide)] at em
        have : (x + 1).toInt = x.toInt + 1 := by rw [i32_add] <;> simp <;> omega
        rw [em, cs, this, ex, show f (ix i) = true by show (gI s 12 (64 * ix a + ix i) != 0 && gI s 12 (64 * ix b + ix i) == 0) = true; simp [z, z']]; rfl
  · exact c8_32 _ _ _ _ _ _ ⟨fun q => absurd q (by rw [uf 0 31 (by decide), i32_lt]; omega), fun _ => fin x u Ju uf (by rw [← hi]; exact u12) (by rw [ex, Int32.toInt_inj.mp hi])⟩
  · rw [if_neg]
    rintro ⟨q1, q2, _⟩
    have : (0 : Int32).toInt = 0 := by decide
    omega

theorem own_ct_even (s : St) (r : Nat) (h13 : ∀ j, gI s 13 j = 0) (h14 : ∀ j, gI s 14 j = 0) : ∀ n, own_ct (own_vb s r) n = (n + 1) / 2
  | 0 => rfl
  | n + 1 => by
    show own_ct (own_vb s r) n + _ = _
    rw [own_ct_even s r h13 h14 n]
    have : own_vb s r n = (n % 2 == 0) := by unfold own_vb; rw [h13, h14]; simp
    rw [this]
    by_cases w : n % 2 = 0
    · simp [w]; omega
    · simp [w]; omega
theorem own_startJ {N M P : Int32} {s : St} (hN : 8 ≤ N.toInt ∧ N.toInt ≤ 64) (hM : 8 ≤ M.toInt ∧ M.toInt ≤ 64) (hP : 8 ≤ P.toInt ∧ P.toInt ≤ 32) (z : own_Z N M P s) : own_J N M P s := by
  obtain ⟨z28, z29, z30, z31, z40, z10, z11, z15, zz⟩ := z
  have e0 : (0 : Int32).toInt = 0 := by decide
  have xN := ix_int (i := N) (by omega)
  refine ⟨⟨z28, z29, z30, hN, hM, hP, by rw [z31, e0]; omega, by rw [z40, e0]; omega, fun r hr => by rw [z11 r hr]; omega, fun j => by rw [zz 16 j (by omega), e0]; omega⟩, ⟨fun j => Or.inl (zz 12 j (by omega)), fun r hr => by rw [z10 r hr, z31, e0]; omega, fun r hr k hk => ?_, fun r hr => Or.inl (by rw [z10 r hr, e0]), fun k hk => ?_, fun k hk => ?_, fun r hr k _ _ => zz 12 _ (by omega)⟩, fun j k hj => ?_, fun r hr => ⟨?_, fun c hc => ⟨?_, ?_⟩, fun c τ hc hτ => Or.inl ⟨by rw [zz 16 _ (by omega), e0], fun k _ h => absurd (zz 12 _ (by omega)) h⟩⟩, fun i hi => ?_⟩
  · rw [z31, e0] at hk; omega
  · rw [z31, e0] at hk; omega
  · rw [z31, e0] at hk; omega
  · rw [z31, e0] at hj; omega
  · have ce := own_ct_even s r (fun j => zz 13 j (by omega)) (fun j => zz 14 j (by omega)) (ix N)
    have vb : ∀ n, own_vb s r n = (n % 2 == 0) := fun n => by unfold own_vb; rw [zz 13 _ (by omega), zz 14 _ (by omega)]; simp
    refine ⟨by rw [ce, z11 r hr]; omega, ?_⟩
    rw [ce]
    have ee : ∀ i : Nat, 2 * (i : Int) < N.toInt → own_e s r i = 2 * i := fun i hi => z15 r hr i hi
    refine ⟨fun i hi => ?_, fun i j ij jn => ?_, fun c hc => ?_⟩
    · rw [ee i (by omega)]
      show _ ∧ _ < _ ∧ own_vb _ _ _ = true
      rw [vb]
      have : (2 * (i : Int)).toNat = 2 * i := by omega
      rw [this]
      exact ⟨by omega, by omega, by simp⟩
    · rw [ee i (by omega), ee j (by omega)]; omega
    · have hc : c < ix N ∧ own_vb s r c = true := hc
      rw [vb] at hc
      have h2 : c % 2 = 0 := by simpa using hc.2
      exact ⟨c / 2, by omega, by rw [ee _ (by omega)]; omega⟩
  · rw [zz 13 _ (by omega)]
    exact ⟨fun q => absurd rfl q, fun ⟨k, _, h, _⟩ => absurd (zz 12 _ (by omega)) h⟩
  · rw [zz 14 _ (by omega)]
    exact ⟨fun q => absurd rfl q, fun ⟨k, _, h, _⟩ => absurd (zz 12 _ (by omega)) h⟩
  · rw [z40, e0] at hi; omega
/-- replicas with one set of ops applied stand alike -/
theorem own_eqD {N M P : Int32} {s : St} (J : own_J N M P s) {r q : Nat} (hr : r < 4) (hq : q < 4) (ap : ∀ k, k < 64 → (gI s 12 (64 * r + k) ≠ 0 ↔ gI s 12 (64 * q + k) ≠ 0)) : gI s 10 r = gI s 10 q ∧ gI s 11 r = gI s 11 q ∧ (∀ c, c < ix N → (gI s 13 (64 * r + c) ≠ 0 ↔ gI s 13 (64 * q + c) ≠ 0) ∧ (gI s 14 (64 * r + c) ≠ 0 ↔ gI s 14 (64 * q + c) ≠ 0)) ∧ (∀ c τ, c < ix N → τ < 4 → gI s 16 (4 * (64 * r + c) + τ) = gI s 16 (4 * (64 * q + c) + τ)) := by
  obtain ⟨F, C, U, D, L⟩ := J
  have n64 : (gI s 0 31).toInt ≤ 64 := by have := F.2.2.2.2.2.2.1; have := F.2.2.2.2.1; omega
  have fl : ∀ c, c < ix N → (gI s 13 (64 * r + c) ≠ 0 ↔ gI s 13 (64 * q + c) ≠ 0) ∧ (gI s 14 (64 * r + c) ≠ 0 ↔ gI s 14 (64 * q + c) ≠ 0) := fun c hc => by
    have a := (D r hr).2.1 c hc
    have b := (D q hq).2.1 c hc
    have ex : ∀ v : Int32, (∃ k, k < 64 ∧ gI s 12 (64 * r + k) ≠ 0 ∧ gI s 1 k = v ∧ (gI s 8 k).toInt = c) ↔ ∃ k, k < 64 ∧ gI s 12 (64 * q + k) ≠ 0 ∧ gI s 1 k = v ∧ (gI s 8 k).toInt = c := fun v => ⟨fun ⟨k, h1, h2, h3⟩ => ⟨k, h1, (ap k h1).mp h2, h3⟩, fun ⟨k, h1, h2, h3⟩ => ⟨k, h1, (ap k h1).mpr h2, h3⟩⟩
    exact ⟨by rw [a.1, b.1, ex], by rw [a.2, b.2, ex]⟩
  refine ⟨?_, ?_, fl, fun c τ hc hτ => ?_⟩
  · have le : ∀ x y, x < 4 → y < 4 → (∀ k, k < 64 → gI s 12 (64 * x + k) ≠ 0 → gI s 12 (64 * y + k) ≠ 0) → (gI s 10 x).toInt ≤ (gI s 10 y).toInt := fun x y hx hy h => by
      have := C.2.1 y hy
      rcases C.2.2.2.1 x hx with w | ⟨k, k1, k2, k3⟩
      · omega
      · have := C.2.2.1 y hy k k1 (h k (by omega) k2); omega
    have a := le r q hr hq fun k hk => (ap k hk).mp
    have b := le q r hq hr fun k hk => (ap k hk).mpr
    exact Int32.toInt_inj.mp (by omega)
  · have ct := own_ct_cg (f := own_vb s r) (g := own_vb s q) (ix N) fun c hc => by
      obtain ⟨a, b⟩ := fl c hc
      unfold own_vb
      have e13 : (gI s 13 (64 * r + c) != 0) = (gI s 13 (64 * q + c) != 0) := by
        rw [Bool.eq_iff_iff]; simpa using a
      have e14 : (gI s 14 (64 * r + c) == 0) = (gI s 14 (64 * q + c) == 0) := by
        rw [Bool.eq_iff_iff]; simp only [beq_iff_eq]
        exact ⟨fun h => Classical.byContradiction fun z => b.mpr z h, fun h => Classical.byContradiction fun z => b.mp z h⟩
      rw [e13, e14]
    have a := (D r hr).1.1
    have b := (D q hq).1.1
    exact Int32.toInt_inj.mp (by omega)
  · rcases (D r hr).2.2 c τ hc hτ with ⟨w, a⟩ | ⟨k, hk, w, a, b, d, e⟩
    · rcases (D q hq).2.2 c τ hc hτ with ⟨w', a'⟩ | ⟨k', hk', w', a', b', d', e'⟩
      · exact Int32.toInt_inj.mp (by omega)
      · exact absurd d' (a k' hk' ((ap k' hk').mpr a') b')
    · rcases (D q hq).2.2 c τ hc hτ with ⟨w', a'⟩ | ⟨k', hk', w', a', b', d', e'⟩
      · exact absurd d (a' k hk ((ap k hk).mp a) b)
      · have x := e k' hk' ((ap k' hk').mpr a') b' d'
        have y := e' k hk ((ap k hk).mp a) b d
        have : k = k' := by
          rcases x with x | x
          · exact x.symm
          · rcases y with y | y
            · exact y
            · unfold own_gt at x y; omega
        exact Int32.toInt_inj.mp (by omega)
theorem own_11d (s : St) (r : Int32) (hr : 0 ≤ r.toInt ∧ r.toInt < 4) (Q : Int32 → St → Prop) (h : Q (gI s 11 (ix r)) s) : calI PP 11 16 [.ref 0, .int r] s Q := by
  apply c11_in
  refine own_22 s r _ ?_
  rw [if_pos hr]
  exact ⟨fun q => absurd q (by decide), fun _ => ⟨hr, h⟩⟩
theorem own_17d (N M P : Int32) (s : St) (r k : Int32) (J : own_J N M P s) (hr : 0 ≤ r.toInt ∧ r.toInt < 4) (hk : 0 ≤ k.toInt ∧ k.toInt < (gI s 0 31).toInt) (Q : Int32 → St → Prop) (h : Q (gI s 12 (64 * ix r + ix k)) s) : calI PP 17 16 [.ref 0, .int r, .int k] s Q := by
  have r31 := J.1.2.2.2.2.2.2.1
  have rM := J.1.2.2.2.2.1
  apply c17_in
  refine own_22 s r _ ?_
  rw [if_pos hr]
  refine ⟨fun q => absurd q (by decide), fun _ => c24_in _ _ _ ⟨fun q => absurd q (by rw [i32_lt]; simp; omega), fun _ => ⟨fun _ => ⟨fun q => absurd q (by decide), fun _ => ?_⟩, fun q => absurd (by rw [i32_lt]; exact hk.2) q⟩⟩⟩
  obtain ⟨f1, f2, f3⟩ := own_ix hr (x := k) (by omega)
  apply c47_in
  rw [f3]
  refine ⟨f2, ?_⟩
  have : gI s 12 (64 * ix r + ix k) &&& 1 = gI s 12 (64 * ix r + ix k) := by
    rcases J.2.1.1 (64 * ix r + ix k) with w | w <;> rw [w] <;> decide
  rw [this]; exact h

/-! bits of ints and longs -/
def own_bt (x : Int32) (j : Nat) : Bool := x.toBitVec.getLsbD j
def own_bl (x : Int64) (j : Nat) : Bool := x.toBitVec.getLsbD j
theorem own_i32 (i : Int32) (h0 : 0 ≤ i.toInt) : i = Int32.ofNat (ix i) := by
  have k := ix_int h0
  have r := rng32 i
  rw [i32_eq, Int32.toInt_ofNat_of_lt (by omega)]; omega
theorem own_sh31 (i : Int32) (h0 : 0 ≤ i.toInt) (h1 : i.toInt < 32) : (i &&& 31).toBitVec.smod 32 = BitVec.ofNat 32 (ix i) ∧ ix i < 32 := by
  have k := ix_int h0
  have hn : ix i < 32 := by omega
  have key : ∀ n : Fin 32, (Int32.ofNat n.val &&& 31).toBitVec.smod 32 = BitVec.ofNat 32 n.val := by decide
  have := key ⟨ix i, hn⟩
  rw [← own_i32 i h0] at this
  exact ⟨this, hn⟩
theorem own_bt_one (y : Int32) : (y &&& 1 = 0) ↔ own_bt y 0 = false := by
  unfold own_bt
  constructor
  · intro h
    have := congrArg (fun z => z.toBitVec.getLsbD 0) h
    simpa using this
  · intro h
    apply Int32.toBitVec_inj.mp
    apply BitVec.eq_of_getLsbD_eq
    intro j hj
    rw [Int32.toBitVec_and, BitVec.getLsbD_and]
    have e : (1 : Int32).toBitVec = 1#32 := by decide
    have z : (0 : Int32).toBitVec = 0#32 := by decide
    rw [e, z, BitVec.getLsbD_one]
    by_cases q : j = 0
    · subst q; rw [h, Bool.false_and]; simp
    · simp [q]
theorem own_bt_sar (x i : Int32) (h0 : 0 ≤ i.toInt) (h1 : i.toInt < 32) : own_bt (x >>> (i &&& 31)) 0 = own_bt x (ix i) := by
  obtain ⟨e, hn⟩ := own_sh31 i h0 h1
  unfold own_bt
  rw [Int32.toBitVec_shiftRight, e, BitVec.sshiftRight_eq', BitVec.getLsbD_sshiftRight]
  have e2 : (BitVec.ofNat 32 (ix i)).toNat = ix i := by simp; omega
  rw [e2]; simp [hn]
theorem own_bt_shr (x i : Int32) (h0 : 0 ≤ i.toInt) (h1 : i.toInt < 32) : ((x >>> (i &&& 31)) &&& 1 = 0) ↔ own_bt x (ix i) = false := by
  rw [own_bt_one, own_bt_sar x i h0 h1]
theorem own_bt_shl (i : Int32) (h0 : 0 ≤ i.toInt) (h1 : i.toInt < 32) (j : Nat) (hj : j < 32) : own_bt (1 <<< (i &&& 31)) j = decide (j = ix i) := by
  obtain ⟨e, hn⟩ := own_sh31 i h0 h1
  unfold own_bt
  have e2 : (BitVec.ofNat 32 (ix i)).toNat = ix i := by simp; omega
  have e1 : (1 : Int32).toBitVec = 1#32 := by decide
  rw [Int32.toBitVec_shiftLeft, e, BitVec.shiftLeft_eq', e2, BitVec.getLsbD_shiftLeft, e1, BitVec.getLsbD_one]
  by_cases q : j = ix i
  · subst q; simp [hj]
  · by_cases l : j < ix i
    · simp [l, q]
    · have : ¬ (j - ix i = 0) := by omega
      simp [q, this]
theorem own_bt_or (x i : Int32) (h0 : 0 ≤ i.toInt) (h1 : i.toInt < 32) (j : Nat) (hj : j < 32) : own_bt (x ||| (1 <<< (i &&& 31))) j = (own_bt x j || decide (j = ix i)) := by
  rw [← own_bt_shl i h0 h1 j hj]
  simp [own_bt]
theorem own_bt_neg (x : Int32) (j : Nat) (hj : j < 32) : own_bt (x ^^^ (-1)) j = !own_bt x j := by
  have e : (-1 : Int32).toBitVec = BitVec.allOnes 32 := by decide
  simp [own_bt, e, hj]
theorem own_bt_and (x y : Int32) (j : Nat) : own_bt (x &&& y) j = (own_bt x j && own_bt y j) := by simp [own_bt]
theorem own_bt_clr (x i : Int32) (h0 : 0 ≤ i.toInt) (h1 : i.toInt < 32) (j : Nat) (hj : j < 32) : own_bt (x &&& ((1 <<< (i &&& 31)) ^^^ (-1))) j = (own_bt x j && !decide (j = ix i)) := by
  rw [own_bt_and, own_bt_neg _ _ hj, own_bt_shl i h0 h1 j hj]
theorem own_bt_zero (x : Int32) : x = 0 ↔ ∀ j, j < 32 → own_bt x j = false := by
  constructor
  · intro h j _; rw [h]; simp [own_bt]
  · intro h
    apply Int32.toBitVec_inj.mp
    apply BitVec.eq_of_getLsbD_eq
    intro j hj
    have := h j hj
    have z : (0 : Int32).toBitVec = 0#32 := by decide
    rw [z]; simpa [own_bt] using this
theorem own_bt_0 (j : Nat) : own_bt 0 j = false := by simp [own_bt]
theorem own_bt_tst (x i : Int32) (h0 : 0 ≤ i.toInt) (h1 : i.toInt < 32) : (x &&& (1 <<< (i &&& 31)) = 0) ↔ own_bt x (ix i) = false := by
  have k := ix_int h0
  rw [own_bt_zero]
  constructor
  · intro h
    have := h (ix i) (by omega)
    rw [own_bt_and, own_bt_shl i h0 h1 _ (by omega)] at this
    simpa using this
  · intro h j hj
    rw [own_bt_and, own_bt_shl i h0 h1 _ hj]
    by_cases z : j = ix i
    · rw [z, h]; rfl
    · simp [z]
theorem own_bt_ext {x y : Int32} (h : ∀ j, j < 32 → own_bt x j = own_bt y j) : x = y :=
  Int32.toBitVec_inj.mp (BitVec.eq_of_getLsbD_eq h)
theorem own_bt_s16 (y : Int32) (j : Nat) (hj : j < 16) : own_bt (y <<< ((16 : Int32) &&& 31)) j = false := by
  have e : ((16 : Int32) &&& 31).toBitVec.smod 32 = 16#32 := by decide
  have e2 : (16#32).toNat = 16 := by decide
  unfold own_bt
  rw [Int32.toBitVec_shiftLeft, e, BitVec.shiftLeft_eq', e2, BitVec.getLsbD_shiftLeft]
  simp [hj]
theorem own_bt_15 (j : Nat) (hj : j < 32) : own_bt 15 j = decide (j < 4) := by
  have b : ∀ j : Fin 32, own_bt 15 j.val = decide (j.val < 4) := by decide
  exact b ⟨j, hj⟩
theorem own_bt_64k (j : Nat) (hj : j < 32) : own_bt 65535 j = decide (j < 16) := by
  have b : ∀ j : Fin 32, own_bt 65535 j.val = decide (j.val < 16) := by decide
  exact b ⟨j, hj⟩
/-! nibbles of a long -/
theorem own_sh63 (i : Int32) (h0 : 0 ≤ i.toInt) (h1 : i.toInt < 16) : ((4 * i).toInt64 &&& 63).toBitVec.smod 64 = BitVec.ofNat 64 (4 * ix i) ∧ ((4 * i).toInt64.toUInt64 &&& Int64.toUInt64 63).toBitVec % 64 = BitVec.ofNat 64 (4 * ix i) ∧ ix i < 16 := by
  have k := ix_int h0
  have hn : ix i < 16 := by omega
  have key : ∀ n : Fin 16, ((4 * Int32.ofNat n.val).toInt64 &&& 63).toBitVec.smod 64 = BitVec.ofNat 64 (4 * n.val) ∧ ((4 * Int32.ofNat n.val).toInt64.toUInt64 &&& Int64.toUInt64 63).toBitVec % 64 = BitVec.ofNat 64 (4 * n.val) := by decide
  have := key ⟨ix i, hn⟩
  rw [← own_i32 i h0] at this
  exact ⟨this.1, this.2, hn⟩
def own_nb (x : Int64) (i : Int32) : Int64 := Jvm.Free.XT.ushrL x (4 * i) &&& 15
theorem own_nb_bit (x : Int64) (i : Int32) (h0 : 0 ≤ i.toInt) (h1 : i.toInt < 16) (j : Nat) (hj : j < 64) : own_bl (own_nb x i) j = (own_bl x (4 * ix i + j) && decide (j < 4)) := by
  obtain ⟨_, e, hn⟩ := own_sh63 i h0 h1
  have e2 : (BitVec.ofNat 64 (4 * ix i)).toNat = 4 * ix i := by simp; omega
  have f : (15 : Int64).toBitVec = 15#64 := by decide
  have b15 : ∀ j : Fin 64, (15#64).getLsbD j.val = decide (j.val < 4) := by decide
  have c15 := b15 ⟨j, hj⟩
  simp only at c15
  unfold own_bl own_nb Jvm.Free.XT.ushrL
  rw [Int64.toBitVec_and, BitVec.getLsbD_and, f, c15]
  have g : ((x.toUInt64 >>> ((4 * i).toInt64.toUInt64 &&& Int64.toUInt64 63)).toInt64).toBitVec = x.toBitVec >>> (4 * ix i) := by
    show (x.toUInt64 >>> ((4 * i).toInt64.toUInt64 &&& Int64.toUInt64 63)).toBitVec = _
    rw [UInt64.toBitVec_shiftRight, e, BitVec.ushiftRight_eq', e2]
    rfl
  rw [g, BitVec.getLsbD_ushiftRight]
theorem own_bl_ext {x y : Int64} (h : ∀ j, j < 64 → own_bl x j = own_bl y j) : x = y :=
  Int64.toBitVec_inj.mp (BitVec.eq_of_getLsbD_eq h)
theorem own_bl_sml (v : Int32) (h0 : 0 ≤ v.toInt) (h1 : v.toInt < 16) (j : Nat) : 4 ≤ j → own_bl (Int32.toInt64 v) j = false := by
  intro hj
  have k := ix_int h0
  have hn : ix v < 16 := by omega
  have key : ∀ n : Fin 16, (Int32.ofNat n.val).toInt64.toBitVec = BitVec.ofNat 64 n.val := by decide
  have := key ⟨ix v, hn⟩
  rw [← own_i32 v h0] at this
  unfold own_bl
  rw [this]
  simp only [BitVec.getLsbD_ofNat]
  have : (ix v).testBit j = false := Nat.testBit_lt_two_pow (Nat.lt_of_lt_of_le hn (by
    have : 2 ^ 4 ≤ 2 ^ j := Nat.pow_le_pow_right (by decide) hj
    omega))
  simp [this]
/-- nibble i set to v -/
def own_ns4 (x : Int64) (i v : Int32) : Int64 := (x &&& (((15 : Int64) <<< ((4 * i).toInt64 &&& 63)) ^^^ (-1 : Int64))) ||| (Int32.toInt64 v <<< ((4 * i).toInt64 &&& 63))
theorem own_ns4_bit (x : Int64) (i v : Int32) (h0 : 0 ≤ i.toInt) (h1 : i.toInt < 16) (v0 : 0 ≤ v.toInt) (v1 : v.toInt < 16) (j : Nat) (hj : j < 64) : own_bl (own_ns4 x i v) j = if 4 * ix i ≤ j ∧ j < 4 * ix i + 4 then own_bl (Int32.toInt64 v) (j - 4 * ix i) else own_bl x j := by
  obtain ⟨e, _, hn⟩ := own_sh63 i h0 h1
  have e2 : (BitVec.ofNat 64 (4 * ix i)).toNat = 4 * ix i := by simp; omega
  have f : (15 : Int64).toBitVec = 15#64 := by decide
  have m1 : (-1 : Int64).toBitVec = BitVec.allOnes 64 := by decide
  have b15 : ∀ j : Nat, j < 64 → (15#64).getLsbD j = decide (j < 4) := fun j hj => by
    have b : ∀ j : Fin 64, (15#64).getLsbD j.val = decide (j.val < 4) := by decide
    exact b ⟨j, hj⟩
  have sml := own_bl_sml v v0 v1
  unfold own_bl at *
  unfold own_ns4
  rw [Int64.toBitVec_or, Int64.toBitVec_and, Int64.toBitVec_xor, Int64.toBitVec_shiftLeft, Int64.toBitVec_shiftLeft, e, BitVec.shiftLeft_eq', BitVec.shiftLeft_eq', e2, f, m1]
  rw [BitVec.getLsbD_or, BitVec.getLsbD_and, BitVec.getLsbD_xor, BitVec.getLsbD_shiftLeft, BitVec.getLsbD_shiftLeft, BitVec.getLsbD_allOnes, b15 _ (by omega)]
  by_cases l : j < 4 * ix i
  · rw [if_neg (by omega)]; simp [l, hj]
  · by_cases u : j < 4 * ix i + 4
    · rw [if_pos (by omega)]
      have : j - 4 * ix i < 4 := by omega
      simp [l, hj, this]
    · rw [if_neg (by omega), sml _ (by omega)]
      have : ¬ (j - 4 * ix i < 4) := by omega
      simp [hj, this]
theorem own_nb_set (x : Int64) (i v : Int32) (h0 : 0 ≤ i.toInt) (h1 : i.toInt < 16) (v0 : 0 ≤ v.toInt) (v1 : v.toInt < 16) (k : Int32) (k0 : 0 ≤ k.toInt) (k1 : k.toInt < 16) : own_nb (own_ns4 x i v) k = if k = i then Int32.toInt64 v else own_nb x k := by
  have ki := ix_int h0
  have kk := ix_int k0
  apply own_bl_ext
  intro j hj
  rw [own_nb_bit _ _ k0 k1 j hj]
  by_cases q : j < 4
  · rw [own_ns4_bit x i v h0 h1 v0 v1 _ (by omega)]
    by_cases z : k = i
    · rw [if_pos z]; subst z; rw [if_pos (by omega), Nat.add_sub_cancel_left]; simp [q]
    · rw [if_neg z, own_nb_bit _ _ k0 k1 j hj]
      rw [i32_eq] at z
      rw [if_neg (by omega)]
  · have : decide (j < 4) = false := by simp [q]
    rw [this, Bool.and_false]
    by_cases z : k = i
    · rw [if_pos z, own_bl_sml v v0 v1 j (by omega)]
    · rw [if_neg z, own_nb_bit _ _ k0 k1 j hj, this, Bool.and_false]

/-! single bits of a long -/
theorem own_sh64 (i : Int32) (h0 : 0 ≤ i.toInt) (h1 : i.toInt < 64) : (i.toInt64 &&& 63).toBitVec.smod 64 = BitVec.ofNat 64 (ix i) ∧ (i.toInt64.toUInt64 &&& Int64.toUInt64 63).toBitVec % 64 = BitVec.ofNat 64 (ix i) ∧ ix i < 64 := by
  have k := ix_int h0
  have hn : ix i < 64 := by omega
  have key : ∀ n : Fin 64, ((Int32.ofNat n.val).toInt64 &&& 63).toBitVec.smod 64 = BitVec.ofNat 64 n.val ∧ ((Int32.ofNat n.val).toInt64.toUInt64 &&& Int64.toUInt64 63).toBitVec % 64 = BitVec.ofNat 64 n.val := by decide
  have := key ⟨ix i, hn⟩
  rw [← own_i32 i h0] at this
  exact ⟨this.1, this.2, hn⟩
theorem own_bl_ushr (x : Int64) (i : Int32) (h0 : 0 ≤ i.toInt) (h1 : i.toInt < 64) (j : Nat) : own_bl (Jvm.Free.XT.ushrL x i) j = own_bl x (ix i + j) := by
  obtain ⟨_, e, hn⟩ := own_sh64 i h0 h1
  have e2 : (BitVec.ofNat 64 (ix i)).toNat = ix i := by simp; omega
  unfold own_bl Jvm.Free.XT.ushrL
  have g : ((x.toUInt64 >>> (i.toInt64.toUInt64 &&& Int64.toUInt64 63)).toInt64).toBitVec = x.toBitVec >>> (ix i) := by
    show (x.toUInt64 >>> (i.toInt64.toUInt64 &&& Int64.toUInt64 63)).toBitVec = _
    rw [UInt64.toBitVec_shiftRight, e, BitVec.ushiftRight_eq', e2]
    rfl
  rw [g, BitVec.getLsbD_ushiftRight]
theorem own_bl_zero (x : Int64) : x = 0 ↔ ∀ j, j < 64 → own_bl x j = false := by
  constructor
  · intro h j _; rw [h]; simp [own_bl]
  · intro h
    apply own_bl_ext
    intro j hj
    rw [h j hj]; simp [own_bl]
theorem own_bl_hi (x : Int64) (j : Nat) (h : 64 ≤ j) : own_bl x j = false := by
  unfold own_bl; exact BitVec.getLsbD_of_ge _ _ h
theorem own_bl_tst (x : Int64) (i : Int32) (h0 : 0 ≤ i.toInt) (h1 : i.toInt < 64) : (Jvm.Free.XT.ushrL x i &&& 1 = 0) ↔ own_bl x (ix i) = false := by
  have e1 : (1 : Int64).toBitVec = 1#64 := by decide
  rw [own_bl_zero]
  have b : ∀ j, own_bl (Jvm.Free.XT.ushrL x i &&& 1) j = (own_bl x (ix i + j) && decide (j = 0)) := fun j => by
    rw [← own_bl_ushr x i h0 h1 j]
    unfold own_bl
    rw [Int64.toBitVec_and, BitVec.getLsbD_and, e1, BitVec.getLsbD_one]
    simp
  constructor
  · intro h; have := h 0 (by decide); rw [b] at this; simpa using this
  · intro h j hj
    rw [b]
    by_cases w : j = 0
    · rw [w]; simpa using h
    · simp [w]
theorem own_bl_one (i : Int32) (h0 : 0 ≤ i.toInt) (h1 : i.toInt < 64) (j : Nat) (hj : j < 64) : own_bl ((1 : Int64) <<< (i.toInt64 &&& 63)) j = decide (j = ix i) := by
  obtain ⟨e, _, hn⟩ := own_sh64 i h0 h1
  have e2 : (BitVec.ofNat 64 (ix i)).toNat = ix i := by simp; omega
  have e1 : (1 : Int64).toBitVec = 1#64 := by decide
  unfold own_bl
  rw [Int64.toBitVec_shiftLeft, e, BitVec.shiftLeft_eq', e2, BitVec.getLsbD_shiftLeft, e1, BitVec.getLsbD_one]
  by_cases q : j = ix i
  · subst q; simp [hj]
  · by_cases l : j < ix i
    · simp [l, q]
    · have : ¬ (j - ix i = 0) := by omega
      simp [q, this]
theorem own_bl_or (x y : Int64) (j : Nat) : own_bl (x ||| y) j = (own_bl x j || own_bl y j) := by simp [own_bl]
theorem own_bl_and (x y : Int64) (j : Nat) : own_bl (x &&& y) j = (own_bl x j && own_bl y j) := by simp [own_bl]
theorem own_bl_neg (x : Int64) (j : Nat) (hj : j < 64) : own_bl (x ^^^ (-1)) j = !own_bl x j := by
  have e : (-1 : Int64).toBitVec = BitVec.allOnes 64 := by decide
  simp [own_bl, e, hj]
theorem own_bl_0 (j : Nat) : own_bl 0 j = false := by simp [own_bl]

theorem own_and3 (x : Int32) : 0 ≤ (x &&& 3).toInt ∧ (x &&& 3).toInt < 4 := by
  have := Jvm.Kit.i32_mask x 3 (k := 2) (by decide) (by decide)
  rw [this]
  have e : ((2 : Int) ^ 2) = 4 := by decide
  omega
theorem own_nn (x : Int32) : 0 ≤ (x &&& 2147483647).toInt := by
  have := Jvm.Kit.i32_mask x 2147483647 (k := 31) (by decide) (by decide)
  rw [this]
  have e : ((2 : Int) ^ 31) = 2147483648 := by decide
  omega
theorem own_kd (x : Int32) : (Jvm.Free.XT.ushr (x &&& 15) 2 = 0) ↔ (x &&& 15) / 4 = 0 := by
  have m := Jvm.Kit.i32_mask x 15 (k := 4) (by decide) (by decide)
  have e : ((2 : Int) ^ 4) = 16 := by decide
  rw [e] at m
  have h0 : 0 ≤ (x &&& 15).toInt := by omega
  have hn : ix (x &&& 15) < 16 := by have := ix_int h0; omega
  rw [own_i32 (x &&& 15) h0]
  have key : ∀ n : Fin 16, (Jvm.Free.XT.ushr (Int32.ofNat n.val) 2 = 0) ↔ (Int32.ofNat n.val) / 4 = 0 := by decide
  exact key ⟨ix (x &&& 15), hn⟩
theorem own_16d (s : St) (r : Int32) (hr : 0 ≤ r.toInt ∧ r.toInt < 4) (Q : Int32 → St → Prop) (h : Q (gI s 10 (ix r)) s) : calI PP 16 16 [.ref 0, .int r] s Q := by
  apply c16_in
  refine own_22 s r _ ?_
  rw [if_pos hr]
  exact ⟨fun q => absurd q (by decide), fun _ => ⟨hr, h⟩⟩
/-- opField of the header -/
theorem own_13d (N M P : Int32) (s : St) (k f : Int32) (F : own_F N M P s) (hk : 0 ≤ k.toInt ∧ k.toInt < (gI s 0 31).toInt) (Q : Int32 → St → Prop) (h : (f = 0 ∧ Q (gI s 1 (ix k)) s) ∨ (f = 1 ∧ Q (gI s 2 (ix k)) s) ∨ (f = 2 ∧ Q (gI s 3 (ix k)) s)) : calI PP 13 16 [.ref 0, .int k, .int f] s Q := by
  have r31 := F.2.2.2.2.2.2.1
  have rM := F.2.2.2.2.1
  have kb : inb 64 k := ⟨hk.1, by show _ < (64 : Int); omega⟩
  apply c13_in
  refine c24_in _ _ _ ⟨fun q => absurd q (by rw [i32_lt]; simp; omega), fun _ => ⟨fun _ => ⟨fun q => absurd q (by decide), fun _ => ?_⟩, fun q => absurd (by rw [i32_lt]; exact hk.2) q⟩⟩
  rcases h with ⟨rfl, h⟩ | ⟨rfl, h⟩ | ⟨rfl, h⟩
  · exact ⟨fun q => absurd q (by decide), fun _ => ⟨fun q => absurd q (by decide), fun _ => ⟨fun q => absurd q (by decide), fun _ => c29_in _ _ _ _ ⟨fun _ => ⟨kb, h⟩, fun q => absurd rfl q⟩⟩⟩⟩
  · exact ⟨fun q => absurd q (by decide), fun _ => ⟨fun q => absurd q (by decide), fun _ => ⟨fun q => absurd q (by decide), fun _ => c29_in _ _ _ _ ⟨fun q => absurd q (by decide), fun _ => ⟨fun _ => ⟨kb, h⟩, fun q => absurd rfl q⟩⟩⟩⟩⟩
  · exact ⟨fun q => absurd q (by decide), fun _ => ⟨fun q => absurd q (by decide), fun _ => ⟨fun q => absurd q (by decide), fun _ => c29_in _ _ _ _ ⟨fun q => absurd q (by decide), fun _ => ⟨fun q => absurd q (by decide), fun _ => ⟨fun _ => ⟨kb, h⟩, fun q => absurd rfl q⟩⟩⟩⟩⟩⟩
/-- poolOp -/
theorem own_15d (N M P : Int32) (s : St) (e : Int32) (F : own_F N M P s) (e0 : 0 ≤ e.toInt) (Q : Int32 → St → Prop) (h0 : ¬ e.toInt < (gI s 0 40).toInt → Q (-1) s) (h : e.toInt < (gI s 0 40).toInt → Q (gI s 9 (ix e)) s) : calI PP 15 16 [.ref 0, .int e] s Q := by
  have r40 := F.2.2.2.2.2.2.2.1
  have rP := F.2.2.2.2.2.1
  apply c15_in
  refine c25_in _ _ _ ⟨fun q => absurd q (by rw [i32_lt]; simp; omega), fun _ => ⟨fun b => ⟨fun q => absurd q (by decide), fun _ => ?_⟩, fun b => ⟨fun _ => h0 (by rw [i32_lt] at b; exact b), fun q => absurd rfl q⟩⟩⟩
  rw [i32_lt] at b
  exact ⟨⟨e0, by show _ < (32 : Int); omega⟩, h b⟩
/-- bits -/
theorem own_bits (L : Nat) (sg : Nat → Int32) (x : Int64) (s : St) (Q : Int32 → Wd → Prop) (h : ∀ v : Int32, v.toInt = own_ct (own_bl x) 64 → Q v (W1 s)) : lalI PP QQ (some (L, sg)) 4 [.long x] (W1 s) Q := by
  apply l4W1_in
  refine loop_up (F := fun i => ∀ v : Int32, v.toInt = own_ct (own_bl x) (ix i) → wplI PP QQ (some (L, sg)) 4 lm4 4 [some (.long x), none, some (.int v), some (.int i)] [] (W1 s) Q) 64 (by decide) (fun i i0 i1 e ih v hv => ?_) (fun i hi v hv => ?_) 0 (by decide) (by decide) 0 rfl
  · have xi := ix_int i0
    have xj := ix_int (i := i + 1) (by omega)
    have le := own_ct_le (f := own_bl x) (ix i)
    refine l4W1_4 _ _ _ _ _ _ _ ⟨fun _ m em => ih m ?_, fun q => absurd (by rw [i32_lt]; exact i1) q⟩
    rw [show ix (i + 1) = ix i + 1 by omega]
    show _ = ((own_ct (own_bl x) (ix i) + (if own_bl x (ix i) then 1 else 0) : Nat) : Int)
    rw [em]
    simp only [cmpL_eq, own_bl_tst x i i0 i1]
    cases own_bl x (ix i)
    · rw [if_pos rfl, hv]; rfl
    · rw [if_neg (by decide)]
      have : (v + 1).toInt = v.toInt + 1 := by rw [i32_add] <;> simp <;> omega
      rw [this, hv]; rfl
  · have : ix i = 64 := by have := ix_int (i := i) (by omega); omega
    rw [this] at hv
    exact l4W1_4 _ _ _ _ _ _ _ ⟨fun q => absurd q (by rw [i32_lt, hi]; decide), fun _ => h v hv⟩
/-- agrees -/
theorem own_agr (L : Nat) (sg : Nat → Int32) (N M P : Int32) (s : St) (J : own_J N M P s) (r : Int32) (hr : 0 ≤ r.toInt ∧ r.toInt < 4) (x : Int64) (hx : ∀ j, j < 64 → own_bl x j = (gI s 12 (64 * ix r + j) != 0)) (Q : Int32 → Wd → Prop) (h : Q 1 (W1 s)) : lalI PP QQ (some (L, sg)) 5 [.ref 1, .int r, .long x, .int (gI s 0 31)] (W1 s) Q := by
  have xr := ix_int hr.1
  have F := J.1
  have C := J.2.1
  have r31 := F.2.2.2.2.2.2.1
  have rM := F.2.2.2.2.1
  have c1 := C.2.1 (ix r) (by omega)
  apply l5r1W1_in
  refine loop_up (F := fun i => ∀ m : Int32, 0 ≤ m.toInt → (∀ k : Nat, k < ix i → gI s 12 (64 * ix r + k) ≠ 0 → (gI s 3 k).toInt ≤ m.toInt) → (m.toInt = 0 ∨ ∃ k : Nat, k < ix i ∧ gI s 12 (64 * ix r + k) ≠ 0 ∧ (gI s 3 k).toInt = m.toInt) → wplI PP QQ (some (L, sg)) 5 lm5 6 [some (.ref 1), some (.int r), some (.long x), none, some (.int (gI s 0 31)), some (.int m), some (.int i), none, none] [] (W1 s) Q) (gI s 0 31).toInt (by omega) (fun i i0 i1 e ih m m0 mu ml => ?_) (fun i hi m m0 mu ml => ?_) 0 (by decide) (by simpa using r31.1) 0 (by decide) (fun k hk => absurd hk (by simp [ix])) (Or.inl rfl)
  · have xi := ix_int i0
    have xj := ix_int (i := i + 1) (by omega)
    refine l5r1W1_6 _ _ _ _ _ _ _ _ _ ⟨fun _ b eb => own_17d N M P s r i J hr ⟨i0, i1⟩ _ ?_, fun q => absurd (by rw [i32_lt]; exact i1) q⟩
    have hb := hx (ix i) (by omega)
    simp only [cmpL_eq, own_bl_tst x i i0 (by omega)] at eb
    rcases C.1 (64 * ix r + ix i) with w | w
    · rw [w] at hb ⊢
      have : b = 0 := by rw [eb, hb]; rfl
      subst this
      refine ⟨fun _ => ⟨fun _ => l5r1W1_70 _ _ _ _ _ _ _ _ _ (ih m m0 (fun k hk hk2 => ?_) (ml.imp id fun ⟨k, h1, h2⟩ => ⟨k, by omega, h2⟩)), fun q => absurd rfl q⟩, fun q => absurd rfl q⟩
      by_cases y : k = ix i
      · rw [y, w] at hk2; exact absurd rfl hk2
      · exact mu k (by omega) hk2
    · rw [w] at hb ⊢
      have : b = 1 := by rw [eb, hb]; rfl
      subst this
      refine ⟨fun _ => ⟨fun q => absurd q (by decide), fun _ => own_13d N M P s i 2 F ⟨i0, i1⟩ _ (Or.inr (Or.inr ⟨rfl, fun m' em => l5r1W1_70 _ _ _ _ _ _ _ _ _ (ih m' ?_ (fun k hk hk2 => ?_) ?_)⟩))⟩, fun q => absurd rfl q⟩
      · rw [em]; split
        · rename_i lt; rw [i32_lt] at lt; omega
        · exact m0
      · have : m.toInt ≤ m'.toInt ∧ (gI s 3 (ix i)).toInt ≤ m'.toInt := by
          rw [em]; split
          · rename_i lt; rw [i32_lt] at lt; omega
          · rename_i lt; rw [i32_lt] at lt; omega
        by_cases y : k = ix i
        · rw [y]; exact this.2
        · have := mu k (by omega) hk2; omega
      · rw [em]; split
        · exact Or.inr ⟨ix i, by omega, by rw [w]; decide, rfl⟩
        · exact ml.imp id fun ⟨k, h1, h2⟩ => ⟨k, by omega, h2⟩
  · have xi := ix_int (i := i) (by omega)
    have fin : wplI PP QQ (some (L, sg)) 5 lm5 94 [some (.ref 1), some (.int r), none, none, none, some (.int m), none, none, none] [] (W1 s) Q := by
      refine l5r1W1_94 _ _ _ _ _ _ (own_16d s r hr _ ⟨fun _ => h, fun q => absurd ?_ q⟩)
      apply Int32.toInt_inj.mp
      rcases C.2.2.2.1 (ix r) (by omega) with w | ⟨k, k1, k2, k3⟩
      · rcases ml with y | ⟨k, k1, k2, k3⟩
        · omega
        · have := C.2.2.1 (ix r) (by omega) k (by omega) k2; omega
      · have a := mu k (by omega) k2
        rcases ml with y | ⟨k', k1', k2', k3'⟩
        · have := C.2.2.2.2.2.1 k k1; omega
        · have := C.2.2.1 (ix r) (by omega) k' (by omega) k2'; omega
    refine l5r1W1_6 _ _ _ _ _ _ _ _ _ ⟨fun q => absurd q (by rw [i32_lt]; omega), fun _ => ⟨fun lt => ⟨fun _ => fin, fun q => absurd ?_ q⟩, fun _ => fin⟩⟩
    rw [i32_lt] at lt
    have lt : (gI s 0 31).toInt < 64 := lt
    rw [cmpL_eq, own_bl_zero]
    intro j hj
    rw [own_bl_ushr x _ r31.1 lt]
    by_cases w : ix (gI s 0 31) + j < 64
    · have x31 := ix_int r31.1
      rw [hx _ w, C.2.2.2.2.2.2 (ix r) (by omega) _ (by omega) w]; rfl
    · exact own_bl_hi x _ (by omega)
theorem own_q1 {a b : Int} (h : b = a + 1) : a < b := by omega
theorem own_q2 {x y : Int32} {n : Nat} (e : (x + 1).toInt = x.toInt + 1) (h : y.toInt = n + 1) (k : (n : Int) = x.toInt) : x + 1 = y := Int32.toInt_inj.mp (by omega)
theorem own_q3 {x y : Int32} (e : (x + 1).toInt = x.toInt + 1) (h : y.toInt = x.toInt + 1) : x + 1 = y := Int32.toInt_inj.mp (by omega)
theorem own_q4 {x y : Int32} {n : Nat} (h : x.toInt = n) (k : (n : Int) = y.toInt) : x = y := Int32.toInt_inj.mp (by omega)
theorem own_nb1 (s : St) (r i : Int32) (ρ j : Nat) (hr : 0 ≤ r.toInt ∧ r.toInt < 4) (i0 : 0 ≤ i.toInt) (i1 : i.toInt < 64) (hj : j < 64) : ((if 64 * ρ + j = 64 * ix r + ix i then (1 : Int32) else gI s 12 (64 * ρ + j)) != 0) = (gI s 12 (64 * ρ + j) != 0 || (decide (r.toInt = ρ) && decide (j = ix i))) := by
  have xr := ix_int hr.1
  have xi := ix_int i0
  by_cases w : 64 * ρ + j = 64 * ix r + ix i
  · have h1 : r.toInt = ρ := by omega
    have h2 : j = ix i := by omega
    rw [if_pos w]; simp [h1, h2]
  · rw [if_neg w]
    by_cases h1 : r.toInt = ρ
    · have h2 : ¬ j = ix i := by omega
      simp [h2]
    · simp [h1]
/-- the masks -/
def own_ms (a b c d : Int64) (r : Nat) : Int64 := if r = 0 then a else if r = 1 then b else if r = 2 then c else d
theorem own_sel (L : Nat) (sg : Nat → Int32) (r : Int32) (a b c d : Int64) (s : St) (hr : 0 ≤ r.toInt ∧ r.toInt < 4) (Q : Int64 → Wd → Prop) (h : Q (own_ms a b c d (ix r)) (W1 s)) : lalL PP QQ (some (L, sg)) 3 [.int r, .long a, .long b, .long c, .long d] (W1 s) Q := by
  have xr := ix_int hr.1
  have e0 : (0 : Int32).toInt = 0 := by decide
  have e1 : (1 : Int32).toInt = 1 := by decide
  have e2 : (2 : Int32).toInt = 2 := by decide
  unfold own_ms at h
  apply l3W1_in
  refine ⟨fun w => ?_, fun w => ⟨fun y => ?_, fun y => ⟨fun z => ?_, fun z => ?_⟩⟩⟩
  · rw [i32_eq] at w; rw [if_pos (by omega)] at h; exact h
  · rw [i32_eq] at w y; rw [if_neg (by omega), if_pos (by omega)] at h; exact h
  · rw [i32_eq] at w y z; rw [if_neg (by omega), if_neg (by omega), if_pos (by omega)] at h; exact h
  · rw [i32_eq] at w y z; rw [if_neg (by omega), if_neg (by omega), if_neg (by omega)] at h; exact h
def own_K (s : St) (a b c d : Int64) : Prop := ∀ r, r < 4 → ∀ j, j < 64 → own_bl (own_ms a b c d r) j = (gI s 12 (64 * r + j) != 0)
def own_R (s t : St) (y : Int32) (x : Int64) : Prop := ∀ r, r < 4 → ∀ j, j < 64 → (gI t 12 (64 * r + j) != 0) = (gI s 12 (64 * r + j) != 0 || (decide (y.toInt = r) && own_bl x j))
/-- the end of a turn -/
def own_G (L : Nat) (sg : Nat → Int32) (i : Int32) (s : St) (a b c d : Int64) : Prop := ∀ (t : St) (y : Int32) (x : Int64) (o q : Int32), own_J 16 64 32 t → o = gI t 0 31 → q = gI t 0 40 → own_R s t y x → wplI PP QQ (some (L, sg)) 0 lm0 619 [some (.ref 0), some (.ref 1), some (.long a), none, some (.long b), none, some (.long c), none, some (.long d), none, some (.int o), some (.int q), some (.int i), none, none, none, none, none, some (.int y), some (.long x), none, none, none, none, none, none, none] [] (W1 t) (fun v _ => v = 1)
theorem own_fin (L : Nat) (sg : Nat → Int32) (i : Int32) (s : St) (a b c d : Int64) (K : own_K s a b c d) (ih : ∀ (t : St) (a b c d : Int64), own_J 16 64 32 t → own_K t a b c d → wplI PP QQ (some (L, sg)) 0 lm0 34 [some (.ref 0), some (.ref 1), some (.long a), none, some (.long b), none, some (.long c), none, some (.long d), none, some (.int (gI t 0 31)), some (.int (gI t 0 40)), some (.int (i + 4)), none, none, none, none, none, none, none, none, none, none, none, none, none, none] [] (W1 t) (fun v _ => v = 1)) : own_G L sg i s a b c d := by
  have e0 : (0 : Int32).toInt = 0 := by decide
  have e32 : (32 : Int32).toInt = 32 := by decide
  intro t y x o q Jt ho hq ht
  subst ho hq
  refine l0_619 _ _ _ _ _ _ _ _ _ _ _ _ fun A eA B eB C eC D eD => c12_in _ _ ⟨fun _ => c14_in _ _ ⟨fun _ => ?_, fun q => absurd rfl q⟩, fun q => absurd rfl q⟩
  have Kt : own_K t A B C D := fun r hr j hj => by
    rw [ht r hr j hj, ← K r hr j hj]
    have f0 : (0 : Int32).toInt = 0 := by decide
    have f1 : (1 : Int32).toInt = 1 := by decide
    have f2 : (2 : Int32).toInt = 2 := by decide
    have f3 : (3 : Int32).toInt = 3 := by decide
    have y0 : (y = 0) ↔ y.toInt = 0 := by rw [i32_eq, f0]
    have y1 : (y = 1) ↔ y.toInt = 1 := by rw [i32_eq, f1]
    have y2 : (y = 2) ↔ y.toInt = 2 := by rw [i32_eq, f2]
    have y3 : (y = 3) ↔ y.toInt = 3 := by rw [i32_eq, f3]
    have rr : r = 0 ∨ r = 1 ∨ r = 2 ∨ r = 3 := by omega
    rcases rr with rfl | rfl | rfl | rfl
    · show own_bl A j = (own_bl a j || _)
      rw [eA]
      by_cases w : y.toInt = 0
      · rw [if_pos (y0.mpr w), own_bl_or]; simp [w]
      · rw [if_neg (fun z => w (y0.mp z))]; simp [w]
    · show own_bl B j = (own_bl b j || _)
      rw [eB]
      by_cases w : y.toInt = 1
      · rw [if_neg (fun z => by have := y0.mp z; omega), if_pos (y1.mpr w), own_bl_or]; simp [w]
      · rw [if_neg (fun z => w (y1.mp z))]; simp [w]
    · show own_bl C j = (own_bl c j || _)
      rw [eC]
      by_cases w : y.toInt = 2
      · rw [if_neg (fun z => by have := y0.mp z; omega), if_neg (fun z => by have := y1.mp z; omega), if_pos (y2.mpr w), own_bl_or]; simp [w]
      · rw [if_neg (fun z => w (y2.mp z))]; simp [w]
    · show own_bl D j = (own_bl d j || _)
      rw [eD]
      by_cases w : y.toInt = 3
      · rw [if_neg (fun z => by have := y0.mp z; omega), if_neg (fun z => by have := y1.mp z; omega), if_neg (fun z => by have := y2.mp z; omega), if_pos (y3.mpr w), own_bl_or]; simp [w]
      · rw [if_neg (fun z => w (y3.mp z))]; simp [w]
  clear eA eB eC eD
  have t40 := Jt.1.2.2.2.2.2.2.2.1
  refine loop_up (F := fun h => wplI PP QQ (some (L, sg)) 0 lm0 700 [some (.ref 0), some (.ref 1), some (.long A), none, some (.long B), none, some (.long C), none, some (.long D), none, some (.int (gI t 0 31)), some (.int (gI t 0 40)), some (.int i), none, none, none, none, none, none, none, none, some (.int h), none, none, none, none, none] [] (W1 t) (fun v _ => v = 1)) (gI t 0 40).toInt (by omega) (fun h h0 h1 e ih2 => ?_) (fun h hh => ?_) 0 (by decide) (by simpa using t40.1)
  · have xh := ix_int h0
    have l := Jt.2.2.2.2 (ix h) (by omega)
    refine l0_700 _ _ _ _ _ _ _ _ _ _ _ ⟨fun _ => own_15d 16 64 32 t h Jt.1 h0 _ (fun q => absurd h1 q) fun _ => ⟨fun q => ?_, fun _ => ⟨fun _ => ih2, fun q => absurd (by rw [i32_lt]; exact l.2) q⟩⟩, fun q => absurd (by rw [i32_lt]; exact h1) q⟩
    rw [i32_lt, e0] at q; omega
  · refine l0_700 _ _ _ _ _ _ _ _ _ _ _ ⟨fun q => absurd q (by rw [i32_lt]; omega), fun _ => ?_⟩
    refine own_agr L sg 16 64 32 t Jt 0 (by decide) A (Kt 0 (by decide)) _ ⟨t, rfl, fun q => absurd q (by decide), fun _ => ?_⟩
    refine own_agr L sg 16 64 32 t Jt 1 (by decide) B (Kt 1 (by decide)) _ ⟨t, rfl, fun q => absurd q (by decide), fun _ => ?_⟩
    refine own_agr L sg 16 64 32 t Jt 2 (by decide) C (Kt 2 (by decide)) _ ⟨t, rfl, fun q => absurd q (by decide), fun _ => ?_⟩
    refine own_agr L sg 16 64 32 t Jt 3 (by decide) D (Kt 3 (by decide)) _ ⟨t, rfl, fun q => absurd q (by decide), fun _ => ?_⟩
    exact ih t A B C D Jt Kt
theorem own_nop {s t : St} (h : ∀ j, gI t 12 j = gI s 12 j) : own_R s t (-1) 0 := fun r hr j hj => by
  rw [h, own_bl_0, Bool.and_false, Bool.or_false]
theorem own_new (L : Nat) (sg : Nat → Int32) (i : Int32) (s : St) (a b c d : Int64) (J : own_J 16 64 32 s) (fin : own_G L sg i s a b c d) : ∀ (t : St) (r dv kd : Int32), (0 ≤ r.toInt ∧ r.toInt < 4) → own_J 16 64 32 t → own_N s t (ix r) (ix (gI s 0 31)) kd → (gI t 11 (ix r)).toInt = (gI s 11 (ix r)).toInt + dv.toInt → -1 ≤ dv.toInt → dv.toInt ≤ 1 → wplI PP QQ (some (L, sg)) 0 lm0 231 [some (.ref 0), some (.ref 1), some (.long a), none, some (.long b), none, some (.long c), none, some (.long d), none, some (.int (gI s 0 31)), some (.int (gI s 0 40)), some (.int i), none, some (.int r), none, none, none, some (.int (-1)), some (.long 0), none, some (.int (gI s 11 (ix r))), some (.int (gI s 10 (ix r))), some (.int (gI s 0 31)), some (.int kd), some (.int dv), none] [] (W1 t) (fun v _ => v = 1) := by
  have r40 := J.1.2.2.2.2.2.2.2.1
  have r31 := J.1.2.2.2.2.2.2.1
  have e32 : (32 : Int32).toInt = 32 := by decide
  have e64 : (64 : Int32).toInt = 64 := by decide
  have m1 : (-1 : Int32).toInt = -1 := by decide
  have e40 : (gI s 0 40 + 1).toInt = (gI s 0 40).toInt + 1 := by rw [i32_add] <;> simp <;> omega
  intro t r dv kd hr Jt Nt hv d1 d2
  obtain ⟨n1, n2, n3, n4, n5, n6, n7, n8, n9⟩ := Nt
  have xr := ix_int hr.1
  have x31 := ix_int r31.1
  have x40 := ix_int r40.1
  have c10 := J.2.1.2.1 (ix r) (by omega)
  have s11 := J.1.2.2.2.2.2.2.2.2.1 (ix r) (by omega)
  have t40 := Jt.1.2.2.2.2.2.2.2.1
  have t31 := Jt.1.2.2.2.2.2.2.1
  have e31 : (gI s 0 31 + 1).toInt = (gI s 0 31).toInt + 1 := by rw [i32_add] <;> simp <;> omega
  have hk : 0 ≤ (gI s 0 31).toInt ∧ (gI s 0 31).toInt < (gI t 0 31).toInt := by omega
  have ec : (gI s 10 (ix r) + 1).toInt = (gI s 10 (ix r)).toInt + 1 := by rw [i32_add] <;> simp <;> omega
  have ev : (gI s 11 (ix r) + dv).toInt = (gI s 11 (ix r)).toInt + dv.toInt := by
    have : (16 : Int32).toInt = 16 := by decide
    rw [i32_add] <;> omega
  have e4s : gI s 0 40 + 1 - 1 = gI s 0 40 := Int32.add_sub_cancel _ _
  have lt64 : (gI s 0 31).toInt < 64 := by omega
  refine l0_231 _ _ _ _ _ _ _ _ _ _ _ _ _ _ _ _ _ _ ⟨fun q => ?_, fun _ => ⟨fun _ => ?_, fun q => absurd rfl q⟩⟩
  · rw [i32_eq, m1] at q; omega
  refine own_13d 16 64 32 t _ 0 Jt.1 hk _ (Or.inl ⟨rfl, fun _ => ?_, fun q => absurd n3 q⟩)
  refine own_13d 16 64 32 t _ 1 Jt.1 hk _ (Or.inr (Or.inl ⟨rfl, fun _ => ?_, fun q => absurd (Int32.toInt_inj.mp (by omega)) q⟩))
  refine own_13d 16 64 32 t _ 2 Jt.1 hk _ (Or.inr (Or.inr ⟨rfl, fun _ => ?_, fun q => absurd (Int32.toInt_inj.mp (by omega)) q⟩))
  refine own_11d t r hr _ ⟨fun _ => ?_, fun q => absurd (Int32.toInt_inj.mp (by omega)) q⟩
  rw [e4s]
  refine own_15d 16 64 32 t _ Jt.1 r40.1 _ (fun q => absurd (own_q1 n8) q) fun _ => ⟨fun _ => ?_, fun q => absurd (own_q4 n9 x31) q⟩
  refine l0_357 _ _ _ _ _ _ _ _ _ _ _ _ (fin t r _ _ _ Jt (own_q2 e31 n2 x31) (own_q3 e40 n8) fun ρ hρ j hj => ?_)
  rw [own_bl_one _ r31.1 lt64 j hj, n7]
  exact own_nb1 s r _ ρ j hr r31.1 lt64 hj
theorem own_ref (L : Nat) (sg : Nat → Int32) (i : Int32) (s : St) (a b c d : Int64) (J : own_J 16 64 32 s) (fin : own_G L sg i s a b c d) : ∀ (r dv kd : Int32), (0 ≤ r.toInt ∧ r.toInt < 4) → wplI PP QQ (some (L, sg)) 0 lm0 231 [some (.ref 0), some (.ref 1), some (.long a), none, some (.long b), none, some (.long c), none, some (.long d), none, some (.int (gI s 0 31)), some (.int (gI s 0 40)), some (.int i), none, some (.int r), none, none, none, some (.int (-1)), some (.long 0), none, some (.int (gI s 11 (ix r))), some (.int (gI s 10 (ix r))), some (.int (-1)), some (.int kd), some (.int dv), none] [] (W1 s) (fun v _ => v = 1) := fun r dv kd hr =>
  l0_231 _ _ _ _ _ _ _ _ _ _ _ _ _ _ _ _ _ _ ⟨fun _ => own_11d s r hr _ ⟨fun _ => own_16d s r hr _ ⟨fun _ => l0_357 _ _ _ _ _ _ _ _ _ _ _ _ (fin s _ _ _ _ J rfl rfl (own_nop fun _ => rfl)), fun q => absurd rfl q⟩, fun q => absurd rfl q⟩, fun q => absurd rfl q⟩
theorem own_mk8 (L : Nat) (sg : Nat → Int32) (i : Int32) (s : St) (a b c d : Int64) (J : own_J 16 64 32 s) (fin : own_G L sg i s a b c d) (C R A B : Int32) (hr : 0 ≤ R.toInt ∧ R.toInt < 4) : wplI PP QQ (some (L, sg)) 0 lm0 109 [some (.ref 0), some (.ref 1), some (.long a), none, some (.long b), none, some (.long c), none, some (.long d), none, some (.int (gI s 0 31)), some (.int (gI s 0 40)), some (.int i), some (.int C), some (.int R), some (.int A), some (.int B), none, some (.int (-1)), some (.long 0), none, none, none, none, none, none, none] [] (W1 s) (fun v _ => v = 1) := by
  have e0 : (0 : Int32).toInt = 0 := by decide
  have new := own_new L sg i s a b c d J fin
  have ref := own_ref L sg i s a b c d J fin
  refine l0_109 _ _ _ _ _ _ _ _ _ _ _ _ _ _ _ _ (own_11d s _ hr _ (own_16d s _ hr _ ⟨fun _ => ?_, fun _ => ⟨fun _ => ?_, fun _ => ?_⟩⟩))
  · exact own_j2 16 64 32 s _ _ J _ (ref _ _ _ hr) fun t Jt Nt hv => new t _ 1 0 hr Jt Nt (by rw [hv]; rfl) (by decide) (by decide)
  · exact own_j3 16 64 32 s _ _ J _ (ref _ _ _ hr) fun t Jt Nt hv => new t _ (-1) 1 hr Jt Nt (by rw [hv]; rfl) (by decide) (by decide)
  · refine own_j4 16 64 32 s _ _ _ _ J _ (fun _ _ => ref _ _ _ hr) fun t Jt Nt hv M eM => new t _ 0 M hr Jt (by rw [eM]; simp only [own_kd]; exact Nt) (by rw [hv, e0, Int.add_zero]) (by decide) (by decide)
theorem own_p1 (p : Int32) (h : 0 ≤ p.toInt ∧ p.toInt ≤ 32) : (p + 1).toInt = p.toInt + 1 := by rw [i32_add] <;> simp <;> omega
theorem own_m1 (p : Int32) (h : 0 ≤ p.toInt ∧ p.toInt ≤ 32) : (p + -1).toInt = p.toInt - 1 := by
  have m1 : (-1 : Int32).toInt = -1 := by decide
  rw [i32_add] <;> rw [m1] <;> omega
theorem own_ne0 {p : Int} (h : 0 ≤ p ∧ p ≤ 32) : ¬ p + 1 = (0 : Int32).toInt := by
  have e0 : (0 : Int32).toInt = 0 := by decide
  omega
theorem own_lt0 {x : Int32} {P : Prop} (h : 0 ≤ x.toInt) (q : x < 0) : P := by
  have e0 : (0 : Int32).toInt = 0 := by decide
  rw [i32_lt, e0] at q; omega
theorem own_q5 {x y : Int32} (e : (x + -1).toInt = x.toInt - 1) (h : y.toInt = x.toInt - 1) : x + -1 = y := Int32.toInt_inj.mp (by omega)
theorem own_hE (x p : Int32) (h : 0 ≤ p.toInt ∧ p.toInt ≤ 32) : 0 ≤ ((x &&& 2147483647) % (p + 1)).toInt := by
  have e : (p + 1).toInt = p.toInt + 1 := by rw [i32_add] <;> simp <;> omega
  rw [Int32.toInt_mod, Int.tmod_eq_emod_of_nonneg (own_nn _)]
  exact Int.emod_nonneg _ (by omega)
theorem law_ok (L : Nat) (sg : Nat → Int32) (hN : (L : Int) ≤ (260 : Int32).toInt) : lalI PP QQ (some (L, sg)) 0 [.ref 0] W0 (fun v _ => v = 1) := by
  have e260 : (260 : Int32).toInt = 260 := by decide
  have eN : (Int32.ofNat L).toInt = L := Int32.toInt_ofNat_of_lt (by omega)
  apply l0_in
  refine own_0 16 64 32 _ fun n m p S en em ep hn hm hp z => ?_
  have J0 := own_startJ hn hm hp z
  have e16 : n = 16 := by rw [en]; decide
  have e64 : m = 64 := by rw [em]; decide
  have e32 : p = 32 := by rw [ep]; decide
  subst e16 e64 e32
  have z31 : gI S 0 31 = 0 := z.2.2.2.1
  have z40 : gI S 0 40 = 0 := z.2.2.2.2.1
  have K0 : own_K S 0 0 0 0 := fun r hr j hj => by
    rw [z.2.2.2.2.2.2.2.2 12 _ (by omega)]
    unfold own_ms
    rw [show (if r = 0 then (0 : Int64) else if r = 1 then 0 else if r = 2 then 0 else 0) = 0 by simp]
    rw [own_bl_0]; rfl
  clear z en em ep hn hm hp
  have key : ∀ (k : Nat) (i : Int32) (s : St) (a b c d : Int64), 0 ≤ i.toInt → i.toInt + k = L + 4 → own_J 16 64 32 s → own_K s a b c d → wplI PP QQ (some (L, sg)) 0 lm0 34 [some (.ref 0), some (.ref 1), some (.long a), none, some (.long b), none, some (.long c), none, some (.long d), none, some (.int (gI s 0 31)), some (.int (gI s 0 40)), some (.int i), none, none, none, none, none, none, none, none, none, none, none, none, none, none] [] (W1 s) (fun v _ => v = 1) := by
    intro k
    induction k using Nat.strongRecOn with
    | _ k ih =>
    intro i s a b c d i0 hk J K
    have e3 : (i + 3).toInt = i.toInt + 3 := by rw [i32_add] <;> simp <;> omega
    refine l0_34 _ _ _ _ _ _ _ _ _ _ ⟨fun lt => ?_, fun _ => rfl⟩
    rw [i32_lt, eN, e3] at lt
    have e1 : (i + 1).toInt = i.toInt + 1 := by rw [i32_add] <;> simp <;> omega
    have e2 : (i + 2).toInt = i.toInt + 2 := by rw [i32_add] <;> simp <;> omega
    have e4 : (i + 4).toInt = i.toInt + 4 := by rw [i32_add] <;> simp <;> omega
    have b0 : inb L i := ⟨by omega, by omega⟩
    have b1 : inb L (i + 1) := ⟨by omega, by omega⟩
    have b2 : inb L (i + 2) := ⟨by omega, by omega⟩
    have b3 : inb L (i + 3) := ⟨by omega, by omega⟩
    have fin : own_G L sg i s a b c d := own_fin L sg i s a b c d K fun t A B C D Jt Kt => ih (k - 4) (by omega) (i + 4) t A B C D (by omega) (by omega) Jt Kt
    clear ih hk lt e1 e2 e3 e4 i0
    clear hN e260 eN
    have r40 : 0 ≤ (gI s 0 40).toInt ∧ (gI s 0 40).toInt ≤ 32 := J.1.2.2.2.2.2.2.2.1
    have r31 : 0 ≤ (gI s 0 31).toInt ∧ (gI s 0 31).toInt ≤ 64 := J.1.2.2.2.2.2.2.1
    have e40 := own_p1 (gI s 0 40) r40
    have e40' := own_m1 (gI s 0 40) r40
    have mk := own_mk8 L sg i s a b c d J fin (sg (ix i) &&& 7) _ (sg (ix (i + 2))) (sg (ix (i + 3))) (own_and3 (sg (ix (i + 1))))
    have hr := own_and3 (sg (ix (i + 1)))
    have hE := own_hE (sg (ix (i + 2))) (gI s 0 40) r40
    generalize (sg (ix (i + 2)) &&& 2147483647) % (gI s 0 40 + 1) = E at hE ⊢
    have xE := ix_int hE
    refine ⟨b0, b1, b2, b3, fun q => ?_, fun _ => ⟨fun _ => mk, fun _ => ⟨fun _ => ?_, fun _ => ⟨fun _ => ?_, fun _ => ⟨fun _ => ?_, fun _ => ?_⟩⟩⟩⟩, fun _ => mk⟩
    · rw [i32_eq, e40] at q; exact absurd q (own_ne0 r40)
    · -- deliver
      refine own_15d 16 64 32 s E J.1 hE _ (fun nl => ?_) (fun lt => ?_)
      · refine own_j5 16 64 32 s E _ J hr _ (fun _ M eM => ?_) (fun _ lt => absurd lt nl)
        have : M = 0 := by rw [eM, if_neg (by rw [i32_lt]; exact nl)]
        subst this
        exact ⟨fun _ => ⟨fun _ => l0_435 _ _ _ _ _ _ _ _ _ _ _ _ (fin s _ _ _ _ J rfl rfl (own_nop fun _ => rfl)), fun q => absurd rfl q⟩, fun q => absurd rfl q⟩
      · have l := J.2.2.2.2 (ix E) (by omega)
        have xl := ix_int l.1
        refine own_j5 16 64 32 s E _ J hr _ (fun q => absurd ⟨hE, lt⟩ q) (fun _ _ t Jt t31 t40 t3 t12 M eM => ?_)
        have : M = 1 := by rw [eM, if_pos (by rw [i32_lt]; exact lt)]
        subst this
        refine ⟨fun _ => ⟨fun q => absurd q (by decide), fun _ => ⟨fun q => ?_, fun _ => ⟨fun _ => l0_435 _ _ _ _ _ _ _ _ _ _ _ _ (fin t _ _ _ _ Jt t31.symm (Int32.toInt_inj.mp (by omega)) fun ρ hρ j hj => ?_), fun q => absurd (by rw [i32_lt]; exact l.2) q⟩⟩⟩, fun q => absurd rfl q⟩
        · exact own_lt0 l.1 q
        · rw [own_bl_one _ l.1 (by omega) j hj, t12]
          exact own_nb1 s _ _ ρ j hr l.1 (by omega) hj
    · -- duplicate
      refine own_j6 16 64 32 s E J _ (fun nl M eM => ?_) (fun _ lt lt2 t Jt tc t40 M eM => ?_)
      · have : M = 0 := by
          rw [eM]
          by_cases w : E < gI s 0 40
          · rw [if_pos w, if_neg]
            rw [i32_lt] at w ⊢
            intro y; exact nl ⟨hE, w, y⟩
          · rw [if_neg w]
        subst this
        exact ⟨fun _ M eM => fin s _ _ _ _ J rfl (by rw [eM, if_pos rfl]) (own_nop fun _ => rfl), fun q => absurd rfl q⟩
      · have : M = 1 := by
          rw [eM, if_pos (by rw [i32_lt]; exact lt), if_pos (by rw [i32_lt]; exact lt2)]
        subst this
        exact ⟨fun _ M eM => fin t _ _ _ _ Jt (tc 0 31 (by decide) (by decide)).symm (by rw [eM, if_neg (by decide)]; exact Int32.toInt_inj.mp (by omega)) (own_nop fun j => tc 12 j (by decide) (by omega)), fun q => absurd rfl q⟩
    · -- discard
      refine own_j7 16 64 32 s E J _ (fun nl M eM => ?_) (fun _ lt t Jt tc t40 M eM => ?_)
      · have : M = 0 := by
          rw [eM, if_neg]
          rw [i32_lt]; intro y; exact nl ⟨hE, y⟩
        subst this
        exact ⟨fun _ M eM => fin s _ _ _ _ J rfl (by rw [eM, if_pos rfl]) (own_nop fun _ => rfl), fun q => absurd rfl q⟩
      · have : M = 1 := by rw [eM, if_pos (by rw [i32_lt]; exact lt)]
        subst this
        exact ⟨fun _ M eM => fin t _ _ _ _ Jt (tc 0 31 (by decide) (by decide)).symm (by rw [eM, if_neg (by decide)]; exact Int32.toInt_inj.mp (by omega)) (own_nop fun j => tc 12 j (by decide) (by omega)), fun q => absurd rfl q⟩
    · -- sync
      have hb := own_and3 (sg (ix (i + 3)))
      generalize sg (ix (i + 1)) &&& 3 = R at hr ⊢
      generalize sg (ix (i + 3)) &&& 3 = T at hb ⊢
      have xR := ix_int hr.1
      have xT := ix_int hb.1
      refine own_sel L sg R a b c d s hr _ ⟨s, rfl, own_sel L sg T a b c d s hb _ ⟨s, rfl, ?_⟩⟩
      refine own_j8 16 64 32 s R T J hr hb _ (fun e => ⟨fun _ => ⟨fun _ => fin s _ _ _ _ J rfl rfl (own_nop fun _ => rfl), fun q => absurd rfl q⟩, fun q => absurd e q⟩) (fun ne v t Jt tf t12 hv => ⟨fun q => absurd q ne, fun _ => own_bits L sg _ t _ fun w hw => ⟨t, rfl, fun _ => fin t _ _ _ _ Jt (tf 0 31 (by decide)).symm (tf 0 40 (by decide)).symm fun ρ hρ j hj => ?_, fun q => absurd (Int32.toInt_inj.mp ?_) q⟩⟩)
      · rw [K (ix R) (by omega) j hj, t12]
        by_cases h1 : T.toInt = ρ
        · have h2 : ρ = ix T := by omega
          subst h2
          rw [show 64 * ix T + j - 64 * ix T = j by omega]
          by_cases h3 : gI s 12 (64 * ix R + j) = 0
          · rw [if_neg (fun y => y.2.2 h3)]; simp [h3]
          · rw [if_pos ⟨by omega, by omega, h3⟩]; simp [h1, h3]
        · rw [if_neg (by omega)]; simp [h1]
      · rw [hv, hw]
        rw [own_ct_cg (f := fun k => gI s 12 (64 * ix R + k) != 0 && gI s 12 (64 * ix T + k) == 0) (g := own_bl (own_ms a b c d (ix R) &&& (own_ms a b c d (ix T) ^^^ -1))) 64 fun j hj => ?_]
        rw [own_bl_and, own_bl_neg _ _ hj, K (ix R) (by omega) j hj, K (ix T) (by omega) j hj]
        simp only [bne, Bool.not_not]
  have := key (L + 4) 0 S 0 0 0 0 (by decide) (by show (0 : Int) + _ = _; omega) J0 K0
  rw [z31, z40] at this
  exact this
theorem comes_1 {Post : Tables → Env → Array Value → State → Outcome → State → Prop} (hpost : ∀ tb e args s v u, (limb_1_1.after args s (.returned v) u = true ∧ limb_1_2.after args s (.returned v) u = true ∧ True) → FrameEnd s (.returned v) u (Jvm.fieldLocs frame_1_writes args s ++ Jvm.arrayLocs frame_1_arrays args s ++ Jvm.staticLocs frame_1_statics s) 48 5312 → Post tb e args s (.returned v) u) :
    ArmFor flags0 classFile x code maxLocals ret World_1 tables_1 room_1 Calls_1 rest_1 Pre_1 Post := by
  intro l hfl _ _ p e ha hc hk s m args below hf hA hF happ hP
  obtain ⟨hcalls, hrest, hpre⟩ := hP
  obtain ⟨-, -, -, hnamed, -, -, -, hat⟩ := (Spec.applies_iff hf).mp happ
  obtain ⟨hg, hn⟩ := and_e (Cond.before_iff.mp (show (Jvm.Cond.and given_1 narrow_1).before args s = true from hpre))
  obtain ⟨h1, g0⟩ := and_e hg
  obtain ⟨w0, rfl⟩ : ∃ w0 : Value, args = #[w0] := by
    have hs : args.size = 1 := by simpa [Cond.value, given_1] using h1
    obtain ⟨L⟩ := args
    match L, hs with
    | [w0], _ => exact ⟨w0, rfl⟩
  have hw := fun d (hd : d ∈ tables_1) => atoms_spec (ws := Jvm.Cond.code x code maxLocals ret :: tables_1) hat d (List.mem_cons_of_mem _ hd)
  have hfit : Fit s := fun {y c} hc i hi => by
    obtain ⟨ha, rfl⟩ := Array.getElem?_eq_some_iff.mp hc
    have q := List.all_eq_true.mp ((Array.all_eq_true_iff_forall_mem.mp hF) _ (Array.getElem_mem ha)) i (List.mem_range.mpr hi)
    simpa [Array.getElem?_eq_getElem hi] using q
  obtain ⟨hn1, hn2⟩ := and_e hn
  obtain ⟨a, ea⟩ := arr_v hn1
  obtain rfl : w0 = .ref a := Option.some.inj ea
  obtain ⟨cl, A⟩ := Arr.start ea hn1
  obtain ⟨⟨-, hN⟩, hS⟩ := script_of hfit A ea hn2
  obtain ⟨f, w0, hr⟩ := law_run (law_ok cl.slots.size (fun i => match cl.slots[i]? with | some (.int x) => x | _ => 0) hN) (me := lm0) rfl
  have M : MetFree l x (head1 (Jvm.Cond.code x code maxLocals ret :: tables_1) room_1) (fun b U => b = #[.ref a] ∧ s.Warmed39 U.vm ∧ U.heap = s.heap) (fun _ _ _ _ _ => True) (fun _ U o U' => ∃ u L, o = .returned u ∧ (u = some (.int 1) ∧ Fr s.heap.size L) ∧ FrameEnd U o U' L 48 5312) :=
    law_met (lkC s _ hw) (lkL s _ hw) (sc := some (cl.slots.size, fun i => match cl.slots[i]? with | some (.int x) => x | _ => 0)) (a := a) (me := lm0) rfl l (bytes := code) (chk_ok dk_l0) (as := [.ref 0]) rfl (Nat.le_of_ble_eq_true rfl) hr hS
  obtain ⟨n, o, h1, h2, h3, _, L, rfl, ⟨rfl, N⟩, hq⟩ := M p e ha hc hk s m _ below hf ((Spec.applies_iff_loose hf).mp happ).1 ⟨rfl, State.Warmed39.refl s, rfl⟩ trivial
  refine ⟨n, _, h1, h2, h3, hpost _ _ _ _ _ _ ⟨Cond.after_iff.mpr rfl, Cond.after_iff.mpr (eq_i res_at (Term.int_eval (1)) rfl), trivial⟩ ⟨hq.1, hq.2.1, (hq.2.2.sift fun y hy => Or.inr (N y hy)).mono (by decide) (by decide)⟩⟩
theorem main_1_1 : Claimed_1_1 := comes_1 fun _ _ _ _ _ _ h hF => ⟨h.1, hF⟩
theorem main_1_2 : Claimed_1_2 := comes_1 fun _ _ _ _ _ _ h hF => ⟨h.2.1, hF⟩
end Jvm.Pilot.@@N@@
namespace Jvm.Pilot.@@N@@
open Jvm Jvm.ClassFile Sem Op Lib Jvm.Free Jvm.Stand Jvm.Pilot.@@N@@.Jvm.D
/-! MADE BY PROGRAM (witnessworld.py) out of the Statement's table words and the real class files: 11 classes; the members and pool entries that the words name. The judged class is class 1, her method 1. -/
namespace start1
open Jvm.ClassFile
def u (s : String) : CpInfo := .utf8 (stringToUtf16 s)
/-- a pool by its gaps: so many unusable entries, then the entry; so many at the end -/
def gap : Nat → List CpInfo → List CpInfo
  | 0, r => r
  | n + 1, r => .unusable :: gap n r
def poolList (es : List (Nat × CpInfo)) (last : Nat) : List CpInfo := es.foldr (fun e r => gap e.1 (e.2 :: r)) (gap last [])
def pool (es : List (Nat × CpInfo)) (last : Nat) : Array CpInfo := ⟨poolList es last⟩
def fileOf (pool : Array CpInfo) (this : Nat) (attrs : Array Attribute := #[]) (ms : Array MethodInfo := #[]) (fl : Nat := 33) (sup : Nat := 0) (ifs : Array Nat := #[]) (fds : Array FieldInfo := #[]) : ClassFile where
  minorVersion := 0
  majorVersion := 65
  constantPool := pool
  accessFlags := fl
  thisClass := this
  superClass := sup
  interfaces := ifs
  fields := fds
  methods := ms
  attributes := attrs
def plain (name : String) (sup : Option ClassId) : Class where
  name := name
  kind := .ordinary
  loader := none
  accessFlags := 33
  super := sup
  interfaces := #[]
  cf := none
  fields := #[]
  methods := #[]
  instanceTypes := #[]
  staticTypes := #[]
  resolved := #[]
  callSites := []
  init := .initialized
  statics := none
  mirror := none

def pool0 : Array CpInfo := pool [(5, u "<init>"), (0, u "()V"), (1, .class_ 10), (1, u "java/lang/Object")] 113

def k0c0 : Code := { maxStack := 0, maxLocals := 1, code := object_method_1_code, exceptionTable := #[], attributes := #[] }
def k0m0 : Method := { name := "<init>", desc := "()V", sig := { parameters := [], returnType := none }, accessFlags := 1, code := some k0c0 }
/-- java/lang/Object -/
def k0 : Class := { plain "java/lang/Object" none with
  accessFlags := 33
  interfaces := #[]
  cf := some (fileOf pool0 8 #[] #[{ accessFlags := 1, nameIndex := 5, descriptorIndex := 6, attributes := #[] }] 33 0 #[] #[])
  fields := #[]
  methods := #[k0m0]
  instanceTypes := #[]
  staticTypes := #[]
  resolved := Array.replicate 124 none
  statics := none }

def pool1 : Array CpInfo := pool [(2, .class_ 4), (1, u "java/lang/Object"), (0, u "<init>"), (0, u "()V"), (0, .class_ 8), (0, u "FormatMarks"), (0, .methodref 7 10), (0, .nameAndType 5 11), (0, u "(III)V"), (0, .integer 2147483647), (0, .methodref 7 14), (0, .nameAndType 15 16), (0, u "visibleCount"), (0, u "(I)I"), (0, .methodref 7 18), (0, .nameAndType 19 16), (0, u "clock"), (0, .methodref 7 21), (0, .nameAndType 22 23), (0, u "insert"), (0, u "(II)I"), (0, .methodref 7 25), (0, .nameAndType 26 23), (0, u "erase"), (0, .methodref 7 28), (0, .nameAndType 29 30), (0, u "mark"), (0, u "(IIII)I"), (0, .methodref 7 32), (0, .nameAndType 33 23), (0, u "opField"), (0, .methodref 7 35), (0, .nameAndType 36 16), (0, u "poolOp"), (0, .methodref 7 38), (0, .nameAndType 39 40), (0, u "deliver"), (0, u "(II)Z"), (0, .methodref 7 42), (0, .nameAndType 43 44), (0, u "duplicate"), (0, u "(I)Z"), (0, .methodref 7 46), (0, .nameAndType 47 44), (0, u "discard"), (0, .methodref 49 50), (0, .class_ 51), (0, .nameAndType 52 53), (0, u "FormatMarksL6"), (0, u "sel"), (0, u "(IJJJJ)J"), (0, .methodref 7 55), (0, .nameAndType 56 23), (0, u "sync"), (0, .long 18446744073709551615), (1, .methodref 49 60), (0, .nameAndType 61 62), (0, u "bits"), (0, u "(J)I"), (0, .methodref 7 64), (0, .nameAndType 65 66), (0, u "opCount"), (0, u "()I"), (0, .methodref 7 68), (0, .nameAndType 69 66), (0, u "poolSize"), (0, .methodref 49 71), (0, .nameAndType 72 73), (0, u "agrees"), (0, u "(LFormatMarks;IJI)Z"), (0, .methodref 7 75), (0, .nameAndType 76 40), (0, u "hasApplied"), (2, u "law"), (0, u "([I)Z")] 5

def k1m0 : Method := { name := "<init>", desc := "()V", sig := { parameters := [], returnType := none }, accessFlags := 1, code := none }
def k1c1 : Code := { maxStack := 9, maxLocals := 27, code := code, exceptionTable := #[], attributes := #[] }
def k1m1 : Method := { name := "law", desc := "([I)Z", sig := { parameters := [(.array .int)], returnType := some .boolean }, accessFlags := 9, code := some k1c1 }
def k1c2 : Code := { maxStack := 2, maxLocals := 9, code := method_3_code, exceptionTable := #[], attributes := #[] }
def k1m2 : Method := { name := "sel", desc := "(IJJJJ)J", sig := { parameters := [.int, .long, .long, .long, .long], returnType := some .long }, accessFlags := 10, code := some k1c2 }
def k1c3 : Code := { maxStack := 4, maxLocals := 4, code := method_4_code, exceptionTable := #[], attributes := #[] }
def k1m3 : Method := { name := "bits", desc := "(J)I", sig := { parameters := [.long], returnType := some .int }, accessFlags := 10, code := some k1c3 }
def k1c4 : Code := { maxStack := 4, maxLocals := 9, code := method_5_code, exceptionTable := #[], attributes := #[] }
def k1m4 : Method := { name := "agrees", desc := "(LFormatMarks;IJI)Z", sig := { parameters := [(.object "FormatMarks"), .int, .long, .int], returnType := some .boolean }, accessFlags := 10, code := some k1c4 }
/-- FormatMarksL6 -/
def k1 : Class := { plain "FormatMarksL6" (some 0) with
  accessFlags := 33
  interfaces := #[]
  cf := some (fileOf pool1 49 #[] #[{ accessFlags := 1, nameIndex := 5, descriptorIndex := 6, attributes := #[] }, { accessFlags := 9, nameIndex := 79, descriptorIndex := 80, attributes := #[] }, { accessFlags := 10, nameIndex := 52, descriptorIndex := 53, attributes := #[] }, { accessFlags := 10, nameIndex := 61, descriptorIndex := 62, attributes := #[] }, { accessFlags := 10, nameIndex := 72, descriptorIndex := 73, attributes := #[] }] 33 2 #[] #[])
  fields := #[]
  methods := #[k1m0, k1m1, k1m2, k1m3, k1m4]
  instanceTypes := #[]
  staticTypes := #[]
  resolved := Array.replicate 86 none
  statics := none }

def pool2 : Array CpInfo := pool [(1, .methodref 2 3), (0, .class_ 4), (0, .nameAndType 5 6), (0, u "java/lang/Object"), (0, u "<init>"), (0, u "()V"), (0, .fieldref 8 9), (0, .class_ 10), (0, .nameAndType 11 12), (0, u "FormatMarks"), (0, u "stride"), (0, u "I"), (0, .fieldref 8 14), (0, .nameAndType 15 12), (0, u "typeCount"), (0, .fieldref 8 17), (0, .nameAndType 18 19), (0, u "opKind"), (0, u "[I"), (0, .fieldref 8 21), (0, .nameAndType 22 19), (0, u "opReplica"), (0, .fieldref 8 24), (0, .nameAndType 25 19), (0, u "opCounter"), (0, .fieldref 8 27), (0, .nameAndType 28 19), (0, u "opType"), (0, .fieldref 8 30), (0, .nameAndType 31 19), (0, u "opStart"), (0, .fieldref 8 33), (0, .nameAndType 34 19), (0, u "opEnd"), (0, .fieldref 8 36), (0, .nameAndType 37 19), (0, u "opValue"), (0, .fieldref 8 39), (0, .nameAndType 40 19), (0, u "opSlot"), (0, .fieldref 8 42), (0, .nameAndType 43 19), (0, u "pool"), (0, .fieldref 8 45), (0, .nameAndType 46 19), (0, u "clocks"), (0, .fieldref 8 48), (0, .nameAndType 49 19), (0, u "visibleSlots"), (0, .fieldref 8 51), (0, .nameAndType 52 53), (0, u "applied"), (0, u "[Z"), (0, .fieldref 8 55), (0, .nameAndType 56 53), (0, u "insertedAt"), (0, .fieldref 8 58), (0, .nameAndType 59 53), (0, u "erasedAt"), (0, .fieldref 8 61), (0, .nameAndType 62 19), (0, u "visList"), (0, .fieldref 8 64), (0, .nameAndType 65 19), (0, u "winner"), (0, .methodref 8 67), (0, .nameAndType 68 69), (0, u "clamp"), (0, u "(III)I"), (0, .fieldref 8 71), (0, .nameAndType 72 12), (0, u "slotCount"), (0, .fieldref 8 74), (0, .nameAndType 75 12), (0, u "opCapacity"), (0, .fieldref 8 77), (0, .nameAndType 78 12), (0, u "poolLimit"), (0, .fieldref 8 80), (0, .nameAndType 81 12), (0, u "opTotal"), (0, .fieldref 8 83), (0, .nameAndType 84 12), (0, u "poolCount"), (0, .methodref 8 86), (0, .nameAndType 87 88), (0, u "resetReplica"), (0, u "(I)V"), (0, .methodref 8 90), (0, .nameAndType 91 92), (0, u "insertAllowed"), (0, u "(II)Z"), (0, .methodref 8 94), (0, .nameAndType 95 69), (0, u "createOp"), (0, .methodref 8 97), (0, .nameAndType 98 99), (0, u "publish"), (0, u "(II)V"), (0, .methodref 8 101), (0, .nameAndType 102 92), (0, u "eraseAllowed"), (0, .methodref 8 104), (0, .nameAndType 105 106), (0, u "slotAtPosition"), (0, u "(II)I"), (0, .methodref 8 108), (0, .nameAndType 109 110), (0, u "markAllowed"), (0, u "(IIII)Z"), (0, .methodref 8 112), (0, .nameAndType 113 69), (0, u "markEnd"), (0, .methodref 8 115), (0, .nameAndType 116 117), (0, u "setMarkFields"), (0, u "(IIII)V"), (0, .methodref 8 119), (0, .nameAndType 120 121), (0, u "validEntry"), (0, u "(I)Z"), (0, .methodref 8 123), (0, .nameAndType 124 121), (0, u "validReplica"), (0, .methodref 8 126), (0, .nameAndType 127 88), (0, u "removeEntry"), (0, .methodref 8 129), (0, .nameAndType 130 92), (0, u "applyOp"), (0, .methodref 8 132), (0, .nameAndType 133 88), (0, u "appendEntry"), (0, .methodref 8 135), (0, .nameAndType 136 106), (0, u "appIdx"), (0, .methodref 8 138), (0, .nameAndType 139 121), (0, u "validSlot"), (3, .methodref 8 144), (0, .nameAndType 145 106), (0, u "stateOf"), (0, .methodref 8 147), (0, .nameAndType 148 121), (0, u "validOp"), (0, .methodref 8 150), (0, .nameAndType 151 106), (0, u "headerField"), (3, .methodref 8 156), (0, .nameAndType 157 158), (0, u "hasRoom"), (0, u "()Z"), (0, .methodref 8 160), (0, .nameAndType 161 99), (0, u "applyCharOp"), (0, .methodref 8 163), (0, .nameAndType 164 99), (0, u "applyMarkOp"), (0, .methodref 8 166), (0, .nameAndType 167 106), (0, u "slotIdx"), (0, .methodref 8 169), (0, .nameAndType 170 99), (0, u "addVisible"), (0, .methodref 8 172), (0, .nameAndType 173 99), (0, u "dropVisible"), (0, .methodref 8 175), (0, .nameAndType 176 177), (0, u "offerWinner"), (0, u "(III)V"), (0, .methodref 8 179), (0, .nameAndType 180 69), (0, u "winIdx"), (0, .methodref 8 182), (0, .nameAndType 183 92), (0, u "greater"), (0, .methodref 8 185), (0, .nameAndType 186 106), (0, u "listIdx"), (0, .methodref 8 188), (0, .nameAndType 189 106), (0, u "nextVisibleAfter"), (3, u "(I)I"), (0, u "REPLICAS"), (2, u "BOLD"), (1, u "ITALIC"), (1, u "LINK"), (1, u "COMMENT"), (1, u "BIT_BOLD"), (0, u "BIT_ITALIC"), (0, u "BIT_LINK"), (0, u "BIT_COMMENT"), (1, u "TARGET_SHIFT"), (0, u "K_INSERT"), (0, u "K_ERASE"), (0, u "K_ADD"), (0, u "K_REMOVE"), (0, u "HIDDEN"), (0, u "VISIBLE"), (0, u "ERASED"), (0, u "F_KIND"), (0, u "F_REPLICA"), (0, u "F_COUNTER"), (0, u "F_TYPE"), (0, u "F_START"), (0, u "F_END"), (1, u "F_VALUE"), (1, u "F_SLOT"), (5, u "insert"), (0, u "erase"), (0, u "mark"), (0, u "(IIII)I"), (0, u "deliver"), (0, u "duplicate"), (0, u "discard"), (0, u "sync"), (2, u "visibleCount"), (0, u "opCount"), (0, u "()I"), (0, u "opField"), (0, u "poolSize"), (0, u "poolOp"), (0, u "clock"), (0, u "hasApplied")] 2

def k2c0 : Code := { maxStack := 5, maxLocals := 5, code := prog_1_method_1_code, exceptionTable := #[], attributes := #[] }
def k2m0 : Method := { name := "<init>", desc := "(III)V", sig := { parameters := [.int, .int, .int], returnType := none }, accessFlags := 1, code := some k2c0 }
def k2c1 : Code := { maxStack := 4, maxLocals := 4, code := prog_1_method_2_code, exceptionTable := #[], attributes := #[] }
def k2m1 : Method := { name := "insert", desc := "(II)I", sig := { parameters := [.int, .int], returnType := some .int }, accessFlags := 1, code := some k2c1 }
def k2c2 : Code := { maxStack := 4, maxLocals := 5, code := prog_1_method_3_code, exceptionTable := #[], attributes := #[] }
def k2m2 : Method := { name := "erase", desc := "(II)I", sig := { parameters := [.int, .int], returnType := some .int }, accessFlags := 1, code := some k2c2 }
def k2c3 : Code := { maxStack := 5, maxLocals := 12, code := prog_1_method_4_code, exceptionTable := #[], attributes := #[] }
def k2m3 : Method := { name := "mark", desc := "(IIII)I", sig := { parameters := [.int, .int, .int, .int], returnType := some .int }, accessFlags := 1, code := some k2c3 }
def k2c4 : Code := { maxStack := 3, maxLocals := 4, code := prog_1_method_5_code, exceptionTable := #[], attributes := #[] }
def k2m4 : Method := { name := "deliver", desc := "(II)Z", sig := { parameters := [.int, .int], returnType := some .boolean }, accessFlags := 1, code := some k2c4 }
def k2c5 : Code := { maxStack := 3, maxLocals := 2, code := prog_1_method_6_code, exceptionTable := #[], attributes := #[] }
def k2m5 : Method := { name := "duplicate", desc := "(I)Z", sig := { parameters := [.int], returnType := some .boolean }, accessFlags := 1, code := some k2c5 }
def k2c6 : Code := { maxStack := 2, maxLocals := 2, code := prog_1_method_7_code, exceptionTable := #[], attributes := #[] }
def k2m6 : Method := { name := "discard", desc := "(I)Z", sig := { parameters := [.int], returnType := some .boolean }, accessFlags := 1, code := some k2c6 }
def k2c7 : Code := { maxStack := 4, maxLocals := 5, code := prog_1_method_8_code, exceptionTable := #[], attributes := #[] }
def k2m7 : Method := { name := "sync", desc := "(II)I", sig := { parameters := [.int, .int], returnType := some .int }, accessFlags := 1, code := some k2c7 }
def k2c8 : Code := { maxStack := 2, maxLocals := 2, code := prog_1_method_11_code, exceptionTable := #[], attributes := #[] }
def k2m8 : Method := { name := "visibleCount", desc := "(I)I", sig := { parameters := [.int], returnType := some .int }, accessFlags := 1, code := some k2c8 }
def k2c9 : Code := { maxStack := 1, maxLocals := 1, code := prog_1_method_12_code, exceptionTable := #[], attributes := #[] }
def k2m9 : Method := { name := "opCount", desc := "()I", sig := { parameters := [], returnType := some .int }, accessFlags := 1, code := some k2c9 }
def k2c10 : Code := { maxStack := 3, maxLocals := 3, code := prog_1_method_13_code, exceptionTable := #[], attributes := #[] }
def k2m10 : Method := { name := "opField", desc := "(II)I", sig := { parameters := [.int, .int], returnType := some .int }, accessFlags := 1, code := some k2c10 }
def k2c11 : Code := { maxStack := 1, maxLocals := 1, code := prog_1_method_14_code, exceptionTable := #[], attributes := #[] }
def k2m11 : Method := { name := "poolSize", desc := "()I", sig := { parameters := [], returnType := some .int }, accessFlags := 1, code := some k2c11 }
def k2c12 : Code := { maxStack := 2, maxLocals := 2, code := prog_1_method_15_code, exceptionTable := #[], attributes := #[] }
def k2m12 : Method := { name := "poolOp", desc := "(I)I", sig := { parameters := [.int], returnType := some .int }, accessFlags := 1, code := some k2c12 }
def k2c13 : Code := { maxStack := 2, maxLocals := 2, code := prog_1_method_16_code, exceptionTable := #[], attributes := #[] }
def k2m13 : Method := { name := "clock", desc := "(I)I", sig := { parameters := [.int], returnType := some .int }, accessFlags := 1, code := some k2c13 }
def k2c14 : Code := { maxStack := 4, maxLocals := 3, code := prog_1_method_17_code, exceptionTable := #[], attributes := #[] }
def k2m14 : Method := { name := "hasApplied", desc := "(II)Z", sig := { parameters := [.int, .int], returnType := some .boolean }, accessFlags := 1, code := some k2c14 }
def k2c15 : Code := { maxStack := 3, maxLocals := 3, code := prog_1_method_18_code, exceptionTable := #[], attributes := #[] }
def k2m15 : Method := { name := "insertAllowed", desc := "(II)Z", sig := { parameters := [.int, .int], returnType := some .boolean }, accessFlags := 2, code := some k2c15 }
def k2c16 : Code := { maxStack := 3, maxLocals := 3, code := prog_1_method_19_code, exceptionTable := #[], attributes := #[] }
def k2m16 : Method := { name := "eraseAllowed", desc := "(II)Z", sig := { parameters := [.int, .int], returnType := some .boolean }, accessFlags := 2, code := some k2c16 }
def k2c17 : Code := { maxStack := 3, maxLocals := 5, code := prog_1_method_20_code, exceptionTable := #[], attributes := #[] }
def k2m17 : Method := { name := "markAllowed", desc := "(IIII)Z", sig := { parameters := [.int, .int, .int, .int], returnType := some .boolean }, accessFlags := 2, code := some k2c17 }
def k2c18 : Code := { maxStack := 2, maxLocals := 1, code := prog_1_method_21_code, exceptionTable := #[], attributes := #[] }
def k2m18 : Method := { name := "hasRoom", desc := "()Z", sig := { parameters := [], returnType := some .boolean }, accessFlags := 2, code := some k2c18 }
def k2c19 : Code := { maxStack := 2, maxLocals := 2, code := prog_1_method_22_code, exceptionTable := #[], attributes := #[] }
def k2m19 : Method := { name := "validReplica", desc := "(I)Z", sig := { parameters := [.int], returnType := some .boolean }, accessFlags := 2, code := some k2c19 }
def k2c20 : Code := { maxStack := 2, maxLocals := 2, code := prog_1_method_23_code, exceptionTable := #[], attributes := #[] }
def k2m20 : Method := { name := "validSlot", desc := "(I)Z", sig := { parameters := [.int], returnType := some .boolean }, accessFlags := 2, code := some k2c20 }
def k2c21 : Code := { maxStack := 2, maxLocals := 2, code := prog_1_method_24_code, exceptionTable := #[], attributes := #[] }
def k2m21 : Method := { name := "validOp", desc := "(I)Z", sig := { parameters := [.int], returnType := some .boolean }, accessFlags := 2, code := some k2c21 }
def k2c22 : Code := { maxStack := 2, maxLocals := 2, code := prog_1_method_25_code, exceptionTable := #[], attributes := #[] }
def k2m22 : Method := { name := "validEntry", desc := "(I)Z", sig := { parameters := [.int], returnType := some .boolean }, accessFlags := 2, code := some k2c22 }
def k2c23 : Code := { maxStack := 5, maxLocals := 6, code := prog_1_method_26_code, exceptionTable := #[], attributes := #[] }
def k2m23 : Method := { name := "createOp", desc := "(III)I", sig := { parameters := [.int, .int, .int], returnType := some .int }, accessFlags := 2, code := some k2c23 }
def k2c24 : Code := { maxStack := 3, maxLocals := 5, code := prog_1_method_27_code, exceptionTable := #[], attributes := #[] }
def k2m24 : Method := { name := "setMarkFields", desc := "(IIII)V", sig := { parameters := [.int, .int, .int, .int], returnType := none }, accessFlags := 2, code := some k2c24 }
def k2c25 : Code := { maxStack := 3, maxLocals := 3, code := prog_1_method_28_code, exceptionTable := #[], attributes := #[] }
def k2m25 : Method := { name := "publish", desc := "(II)V", sig := { parameters := [.int, .int], returnType := none }, accessFlags := 2, code := some k2c25 }
def k2c26 : Code := { maxStack := 2, maxLocals := 3, code := prog_1_method_29_code, exceptionTable := #[], attributes := #[] }
def k2m26 : Method := { name := "headerField", desc := "(II)I", sig := { parameters := [.int, .int], returnType := some .int }, accessFlags := 2, code := some k2c26 }
def k2c27 : Code := { maxStack := 3, maxLocals := 3, code := prog_1_method_31_code, exceptionTable := #[], attributes := #[] }
def k2m27 : Method := { name := "greater", desc := "(II)Z", sig := { parameters := [.int, .int], returnType := some .boolean }, accessFlags := 2, code := some k2c27 }
def k2c28 : Code := { maxStack := 3, maxLocals := 2, code := prog_1_method_32_code, exceptionTable := #[], attributes := #[] }
def k2m28 : Method := { name := "appendEntry", desc := "(I)V", sig := { parameters := [.int], returnType := none }, accessFlags := 2, code := some k2c28 }
def k2c29 : Code := { maxStack := 5, maxLocals := 4, code := prog_1_method_33_code, exceptionTable := #[], attributes := #[] }
def k2m29 : Method := { name := "removeEntry", desc := "(I)V", sig := { parameters := [.int], returnType := none }, accessFlags := 2, code := some k2c29 }
def k2c30 : Code := { maxStack := 4, maxLocals := 5, code := prog_1_method_34_code, exceptionTable := #[], attributes := #[] }
def k2m30 : Method := { name := "applyOp", desc := "(II)Z", sig := { parameters := [.int, .int], returnType := some .boolean }, accessFlags := 2, code := some k2c30 }
def k2c31 : Code := { maxStack := 4, maxLocals := 6, code := prog_1_method_35_code, exceptionTable := #[], attributes := #[] }
def k2m31 : Method := { name := "applyCharOp", desc := "(II)V", sig := { parameters := [.int, .int], returnType := none }, accessFlags := 2, code := some k2c31 }
def k2c32 : Code := { maxStack := 4, maxLocals := 6, code := prog_1_method_36_code, exceptionTable := #[], attributes := #[] }
def k2m32 : Method := { name := "applyMarkOp", desc := "(II)V", sig := { parameters := [.int, .int], returnType := none }, accessFlags := 2, code := some k2c32 }
def k2c33 : Code := { maxStack := 4, maxLocals := 7, code := prog_1_method_37_code, exceptionTable := #[], attributes := #[] }
def k2m33 : Method := { name := "offerWinner", desc := "(III)V", sig := { parameters := [.int, .int, .int], returnType := none }, accessFlags := 2, code := some k2c33 }
def k2c34 : Code := { maxStack := 3, maxLocals := 4, code := prog_1_method_38_code, exceptionTable := #[], attributes := #[] }
def k2m34 : Method := { name := "stateOf", desc := "(II)I", sig := { parameters := [.int, .int], returnType := some .int }, accessFlags := 2, code := some k2c34 }
def k2c35 : Code := { maxStack := 4, maxLocals := 4, code := prog_1_method_39_code, exceptionTable := #[], attributes := #[] }
def k2m35 : Method := { name := "resetReplica", desc := "(I)V", sig := { parameters := [.int], returnType := none }, accessFlags := 2, code := some k2c35 }
def k2c36 : Code := { maxStack := 4, maxLocals := 3, code := prog_1_method_40_code, exceptionTable := #[], attributes := #[] }
def k2m36 : Method := { name := "slotAtPosition", desc := "(II)I", sig := { parameters := [.int, .int], returnType := some .int }, accessFlags := 2, code := some k2c36 }
def k2c37 : Code := { maxStack := 4, maxLocals := 6, code := prog_1_method_41_code, exceptionTable := #[], attributes := #[] }
def k2m37 : Method := { name := "nextVisibleAfter", desc := "(II)I", sig := { parameters := [.int, .int], returnType := some .int }, accessFlags := 2, code := some k2c37 }
def k2c38 : Code := { maxStack := 7, maxLocals := 6, code := prog_1_method_42_code, exceptionTable := #[], attributes := #[] }
def k2m38 : Method := { name := "addVisible", desc := "(II)V", sig := { parameters := [.int, .int], returnType := none }, accessFlags := 2, code := some k2c38 }
def k2c39 : Code := { maxStack := 7, maxLocals := 6, code := prog_1_method_43_code, exceptionTable := #[], attributes := #[] }
def k2m39 : Method := { name := "dropVisible", desc := "(II)V", sig := { parameters := [.int, .int], returnType := none }, accessFlags := 2, code := some k2c39 }
def k2c40 : Code := { maxStack := 3, maxLocals := 5, code := prog_1_method_44_code, exceptionTable := #[], attributes := #[] }
def k2m40 : Method := { name := "markEnd", desc := "(III)I", sig := { parameters := [.int, .int, .int], returnType := some .int }, accessFlags := 2, code := some k2c40 }
def k2c41 : Code := { maxStack := 2, maxLocals := 3, code := prog_1_method_47_code, exceptionTable := #[], attributes := #[] }
def k2m41 : Method := { name := "appIdx", desc := "(II)I", sig := { parameters := [.int, .int], returnType := some .int }, accessFlags := 2, code := some k2c41 }
def k2c42 : Code := { maxStack := 2, maxLocals := 3, code := prog_1_method_48_code, exceptionTable := #[], attributes := #[] }
def k2m42 : Method := { name := "slotIdx", desc := "(II)I", sig := { parameters := [.int, .int], returnType := some .int }, accessFlags := 2, code := some k2c42 }
def k2c43 : Code := { maxStack := 2, maxLocals := 3, code := prog_1_method_49_code, exceptionTable := #[], attributes := #[] }
def k2m43 : Method := { name := "listIdx", desc := "(II)I", sig := { parameters := [.int, .int], returnType := some .int }, accessFlags := 2, code := some k2c43 }
def k2c44 : Code := { maxStack := 2, maxLocals := 4, code := prog_1_method_50_code, exceptionTable := #[], attributes := #[] }
def k2m44 : Method := { name := "winIdx", desc := "(III)I", sig := { parameters := [.int, .int, .int], returnType := some .int }, accessFlags := 2, code := some k2c44 }
def k2c45 : Code := { maxStack := 2, maxLocals := 4, code := prog_1_method_51_code, exceptionTable := #[], attributes := #[] }
def k2m45 : Method := { name := "clamp", desc := "(III)I", sig := { parameters := [.int, .int, .int], returnType := some .int }, accessFlags := 2, code := some k2c45 }
/-- FormatMarks -/
def k2 : Class := { plain "FormatMarks" (some 0) with
  accessFlags := 49
  interfaces := #[]
  cf := some (fileOf pool2 8 #[] #[{ accessFlags := 1, nameIndex := 5, descriptorIndex := 177, attributes := #[] }, { accessFlags := 1, nameIndex := 233, descriptorIndex := 106, attributes := #[] }, { accessFlags := 1, nameIndex := 234, descriptorIndex := 106, attributes := #[] }, { accessFlags := 1, nameIndex := 235, descriptorIndex := 236, attributes := #[] }, { accessFlags := 1, nameIndex := 237, descriptorIndex := 92, attributes := #[] }, { accessFlags := 1, nameIndex := 238, descriptorIndex := 121, attributes := #[] }, { accessFlags := 1, nameIndex := 239, descriptorIndex := 121, attributes := #[] }, { accessFlags := 1, nameIndex := 240, descriptorIndex := 106, attributes := #[] }, { accessFlags := 1, nameIndex := 243, descriptorIndex := 193, attributes := #[] }, { accessFlags := 1, nameIndex := 244, descriptorIndex := 245, attributes := #[] }, { accessFlags := 1, nameIndex := 246, descriptorIndex := 106, attributes := #[] }, { accessFlags := 1, nameIndex := 247, descriptorIndex := 245, attributes := #[] }, { accessFlags := 1, nameIndex := 248, descriptorIndex := 193, attributes := #[] }, { accessFlags := 1, nameIndex := 249, descriptorIndex := 193, attributes := #[] }, { accessFlags := 1, nameIndex := 250, descriptorIndex := 92, attributes := #[] }, { accessFlags := 2, nameIndex := 91, descriptorIndex := 92, attributes := #[] }, { accessFlags := 2, nameIndex := 102, descriptorIndex := 92, attributes := #[] }, { accessFlags := 2, nameIndex := 109, descriptorIndex := 110, attributes := #[] }, { accessFlags := 2, nameIndex := 157, descriptorIndex := 158, attributes := #[] }, { accessFlags := 2, nameIndex := 124, descriptorIndex := 121, attributes := #[] }, { accessFlags := 2, nameIndex := 139, descriptorIndex := 121, attributes := #[] }, { accessFlags := 2, nameIndex := 148, descriptorIndex := 121, attributes := #[] }, { accessFlags := 2, nameIndex := 120, descriptorIndex := 121, attributes := #[] }, { accessFlags := 2, nameIndex := 95, descriptorIndex := 69, attributes := #[] }, { accessFlags := 2, nameIndex := 116, descriptorIndex := 117, attributes := #[] }, { accessFlags := 2, nameIndex := 98, descriptorIndex := 99, attributes := #[] }, { accessFlags := 2, nameIndex := 151, descriptorIndex := 106, attributes := #[] }, { accessFlags := 2, nameIndex := 183, descriptorIndex := 92, attributes := #[] }, { accessFlags := 2, nameIndex := 133, descriptorIndex := 88, attributes := #[] }, { accessFlags := 2, nameIndex := 127, descriptorIndex := 88, attributes := #[] }, { accessFlags := 2, nameIndex := 130, descriptorIndex := 92, attributes := #[] }, { accessFlags := 2, nameIndex := 161, descriptorIndex := 99, attributes := #[] }, { accessFlags := 2, nameIndex := 164, descriptorIndex := 99, attributes := #[] }, { accessFlags := 2, nameIndex := 176, descriptorIndex := 177, attributes := #[] }, { accessFlags := 2, nameIndex := 145, descriptorIndex := 106, attributes := #[] }, { accessFlags := 2, nameIndex := 87, descriptorIndex := 88, attributes := #[] }, { accessFlags := 2, nameIndex := 105, descriptorIndex := 106, attributes := #[] }, { accessFlags := 2, nameIndex := 189, descriptorIndex := 106, attributes := #[] }, { accessFlags := 2, nameIndex := 170, descriptorIndex := 99, attributes := #[] }, { accessFlags := 2, nameIndex := 173, descriptorIndex := 99, attributes := #[] }, { accessFlags := 2, nameIndex := 113, descriptorIndex := 69, attributes := #[] }, { accessFlags := 2, nameIndex := 136, descriptorIndex := 106, attributes := #[] }, { accessFlags := 2, nameIndex := 167, descriptorIndex := 106, attributes := #[] }, { accessFlags := 2, nameIndex := 186, descriptorIndex := 106, attributes := #[] }, { accessFlags := 2, nameIndex := 180, descriptorIndex := 69, attributes := #[] }, { accessFlags := 2, nameIndex := 68, descriptorIndex := 69, attributes := #[] }] 49 2 #[] #[{ accessFlags := 25, nameIndex := 194, descriptorIndex := 12, attributes := #[] }, { accessFlags := 25, nameIndex := 197, descriptorIndex := 12, attributes := #[] }, { accessFlags := 25, nameIndex := 199, descriptorIndex := 12, attributes := #[] }, { accessFlags := 25, nameIndex := 201, descriptorIndex := 12, attributes := #[] }, { accessFlags := 25, nameIndex := 203, descriptorIndex := 12, attributes := #[] }, { accessFlags := 25, nameIndex := 205, descriptorIndex := 12, attributes := #[] }, { accessFlags := 25, nameIndex := 206, descriptorIndex := 12, attributes := #[] }, { accessFlags := 25, nameIndex := 207, descriptorIndex := 12, attributes := #[] }, { accessFlags := 25, nameIndex := 208, descriptorIndex := 12, attributes := #[] }, { accessFlags := 25, nameIndex := 210, descriptorIndex := 12, attributes := #[] }, { accessFlags := 25, nameIndex := 211, descriptorIndex := 12, attributes := #[] }, { accessFlags := 25, nameIndex := 212, descriptorIndex := 12, attributes := #[] }, { accessFlags := 25, nameIndex := 213, descriptorIndex := 12, attributes := #[] }, { accessFlags := 25, nameIndex := 214, descriptorIndex := 12, attributes := #[] }, { accessFlags := 25, nameIndex := 215, descriptorIndex := 12, attributes := #[] }, { accessFlags := 25, nameIndex := 216, descriptorIndex := 12, attributes := #[] }, { accessFlags := 25, nameIndex := 217, descriptorIndex := 12, attributes := #[] }, { accessFlags := 25, nameIndex := 218, descriptorIndex := 12, attributes := #[] }, { accessFlags := 25, nameIndex := 219, descriptorIndex := 12, attributes := #[] }, { accessFlags := 25, nameIndex := 220, descriptorIndex := 12, attributes := #[] }, { accessFlags := 25, nameIndex := 221, descriptorIndex := 12, attributes := #[] }, { accessFlags := 25, nameIndex := 222, descriptorIndex := 12, attributes := #[] }, { accessFlags := 25, nameIndex := 223, descriptorIndex := 12, attributes := #[] }, { accessFlags := 25, nameIndex := 225, descriptorIndex := 12, attributes := #[] }, { accessFlags := 25, nameIndex := 227, descriptorIndex := 12, attributes := #[] }, { accessFlags := 18, nameIndex := 11, descriptorIndex := 12, attributes := #[] }, { accessFlags := 18, nameIndex := 15, descriptorIndex := 12, attributes := #[] }, { accessFlags := 2, nameIndex := 72, descriptorIndex := 12, attributes := #[] }, { accessFlags := 2, nameIndex := 75, descriptorIndex := 12, attributes := #[] }, { accessFlags := 2, nameIndex := 78, descriptorIndex := 12, attributes := #[] }, { accessFlags := 2, nameIndex := 81, descriptorIndex := 12, attributes := #[] }, { accessFlags := 18, nameIndex := 18, descriptorIndex := 19, attributes := #[] }, { accessFlags := 18, nameIndex := 22, descriptorIndex := 19, attributes := #[] }, { accessFlags := 18, nameIndex := 25, descriptorIndex := 19, attributes := #[] }, { accessFlags := 18, nameIndex := 28, descriptorIndex := 19, attributes := #[] }, { accessFlags := 18, nameIndex := 31, descriptorIndex := 19, attributes := #[] }, { accessFlags := 18, nameIndex := 34, descriptorIndex := 19, attributes := #[] }, { accessFlags := 18, nameIndex := 37, descriptorIndex := 19, attributes := #[] }, { accessFlags := 18, nameIndex := 40, descriptorIndex := 19, attributes := #[] }, { accessFlags := 2, nameIndex := 84, descriptorIndex := 12, attributes := #[] }, { accessFlags := 18, nameIndex := 43, descriptorIndex := 19, attributes := #[] }, { accessFlags := 18, nameIndex := 46, descriptorIndex := 19, attributes := #[] }, { accessFlags := 18, nameIndex := 49, descriptorIndex := 19, attributes := #[] }, { accessFlags := 18, nameIndex := 52, descriptorIndex := 53, attributes := #[] }, { accessFlags := 18, nameIndex := 56, descriptorIndex := 53, attributes := #[] }, { accessFlags := 18, nameIndex := 59, descriptorIndex := 53, attributes := #[] }, { accessFlags := 18, nameIndex := 62, descriptorIndex := 19, attributes := #[] }, { accessFlags := 18, nameIndex := 65, descriptorIndex := 19, attributes := #[] }])
  fields := #[{ name := "REPLICAS", type := .int, accessFlags := 25, slot := 0, constantValue := 0 }, { name := "BOLD", type := .int, accessFlags := 25, slot := 1, constantValue := 0 }, { name := "ITALIC", type := .int, accessFlags := 25, slot := 2, constantValue := 0 }, { name := "LINK", type := .int, accessFlags := 25, slot := 3, constantValue := 0 }, { name := "COMMENT", type := .int, accessFlags := 25, slot := 4, constantValue := 0 }, { name := "BIT_BOLD", type := .int, accessFlags := 25, slot := 5, constantValue := 0 }, { name := "BIT_ITALIC", type := .int, accessFlags := 25, slot := 6, constantValue := 0 }, { name := "BIT_LINK", type := .int, accessFlags := 25, slot := 7, constantValue := 0 }, { name := "BIT_COMMENT", type := .int, accessFlags := 25, slot := 8, constantValue := 0 }, { name := "TARGET_SHIFT", type := .int, accessFlags := 25, slot := 9, constantValue := 0 }, { name := "K_INSERT", type := .int, accessFlags := 25, slot := 10, constantValue := 0 }, { name := "K_ERASE", type := .int, accessFlags := 25, slot := 11, constantValue := 0 }, { name := "K_ADD", type := .int, accessFlags := 25, slot := 12, constantValue := 0 }, { name := "K_REMOVE", type := .int, accessFlags := 25, slot := 13, constantValue := 0 }, { name := "HIDDEN", type := .int, accessFlags := 25, slot := 14, constantValue := 0 }, { name := "VISIBLE", type := .int, accessFlags := 25, slot := 15, constantValue := 0 }, { name := "ERASED", type := .int, accessFlags := 25, slot := 16, constantValue := 0 }, { name := "F_KIND", type := .int, accessFlags := 25, slot := 17, constantValue := 0 }, { name := "F_REPLICA", type := .int, accessFlags := 25, slot := 18, constantValue := 0 }, { name := "F_COUNTER", type := .int, accessFlags := 25, slot := 19, constantValue := 0 }, { name := "F_TYPE", type := .int, accessFlags := 25, slot := 20, constantValue := 0 }, { name := "F_START", type := .int, accessFlags := 25, slot := 21, constantValue := 0 }, { name := "F_END", type := .int, accessFlags := 25, slot := 22, constantValue := 0 }, { name := "F_VALUE", type := .int, accessFlags := 25, slot := 23, constantValue := 0 }, { name := "F_SLOT", type := .int, accessFlags := 25, slot := 24, constantValue := 0 }, { name := "stride", type := .int, accessFlags := 18, slot := 0, constantValue := 0 }, { name := "typeCount", type := .int, accessFlags := 18, slot := 1, constantValue := 0 }, { name := "slotCount", type := .int, accessFlags := 2, slot := 2, constantValue := 0 }, { name := "opCapacity", type := .int, accessFlags := 2, slot := 3, constantValue := 0 }, { name := "poolLimit", type := .int, accessFlags := 2, slot := 4, constantValue := 0 }, { name := "opTotal", type := .int, accessFlags := 2, slot := 5, constantValue := 0 }, { name := "opKind", type := (.array .int), accessFlags := 18, slot := 6, constantValue := 0 }, { name := "opReplica", type := (.array .int), accessFlags := 18, slot := 7, constantValue := 0 }, { name := "opCounter", type := (.array .int), accessFlags := 18, slot := 8, constantValue := 0 }, { name := "opType", type := (.array .int), accessFlags := 18, slot := 9, constantValue := 0 }, { name := "opStart", type := (.array .int), accessFlags := 18, slot := 10, constantValue := 0 }, { name := "opEnd", type := (.array .int), accessFlags := 18, slot := 11, constantValue := 0 }, { name := "opValue", type := (.array .int), accessFlags := 18, slot := 12, constantValue := 0 }, { name := "opSlot", type := (.array .int), accessFlags := 18, slot := 13, constantValue := 0 }, { name := "poolCount", type := .int, accessFlags := 2, slot := 14, constantValue := 0 }, { name := "pool", type := (.array .int), accessFlags := 18, slot := 15, constantValue := 0 }, { name := "clocks", type := (.array .int), accessFlags := 18, slot := 16, constantValue := 0 }, { name := "visibleSlots", type := (.array .int), accessFlags := 18, slot := 17, constantValue := 0 }, { name := "applied", type := (.array .boolean), accessFlags := 18, slot := 18, constantValue := 0 }, { name := "insertedAt", type := (.array .boolean), accessFlags := 18, slot := 19, constantValue := 0 }, { name := "erasedAt", type := (.array .boolean), accessFlags := 18, slot := 20, constantValue := 0 }, { name := "visList", type := (.array .int), accessFlags := 18, slot := 21, constantValue := 0 }, { name := "winner", type := (.array .int), accessFlags := 18, slot := 22, constantValue := 0 }]
  methods := #[k2m0, k2m1, k2m2, k2m3, k2m4, k2m5, k2m6, k2m7, k2m8, k2m9, k2m10, k2m11, k2m12, k2m13, k2m14, k2m15, k2m16, k2m17, k2m18, k2m19, k2m20, k2m21, k2m22, k2m23, k2m24, k2m25, k2m26, k2m27, k2m28, k2m29, k2m30, k2m31, k2m32, k2m33, k2m34, k2m35, k2m36, k2m37, k2m38, k2m39, k2m40, k2m41, k2m42, k2m43, k2m44, k2m45]
  instanceTypes := #[.int, .int, .int, .int, .int, .int, (.array .int), (.array .int), (.array .int), (.array .int), (.array .int), (.array .int), (.array .int), (.array .int), .int, (.array .int), (.array .int), (.array .int), (.array .boolean), (.array .boolean), (.array .boolean), (.array .int), (.array .int)]
  staticTypes := #[.int, .int, .int, .int, .int, .int, .int, .int, .int, .int, .int, .int, .int, .int, .int, .int, .int, .int, .int, .int, .int, .int, .int, .int, .int]
  resolved := Array.replicate 253 none
  statics := none }

def pool3 : Array CpInfo := pool [(1, u "java/lang/Cloneable"), (0, .class_ 1), (0, u "java/lang/Object"), (0, .class_ 3)] 3

/-- java/lang/Cloneable -/
def k3 : Class := { plain "java/lang/Cloneable" (some 0) with
  accessFlags := 1537
  interfaces := #[]
  cf := some (fileOf pool3 2 #[] #[] 1537 4 #[] #[])
  fields := #[]
  methods := #[]
  instanceTypes := #[]
  staticTypes := #[]
  resolved := Array.replicate 8 none
  statics := none }

def pool4 : Array CpInfo := pool [(1, u "java/io/Serializable"), (0, .class_ 1), (0, u "java/lang/Object"), (0, .class_ 3)] 3

/-- java/io/Serializable -/
def k4 : Class := { plain "java/io/Serializable" (some 0) with
  accessFlags := 1537
  interfaces := #[]
  cf := some (fileOf pool4 2 #[] #[] 1537 4 #[] #[])
  fields := #[]
  methods := #[]
  instanceTypes := #[]
  staticTypes := #[]
  resolved := Array.replicate 8 none
  statics := none }

/-- the primitive boolean -/
def k5 : Class := { plain "boolean" none with kind := .primitive 'Z', accessFlags := 0x411 }
/-- [Z -/
def k6 : Class := { plain "[Z" (some 0) with kind := .array 5 .boolean, interfaces := #[3, 4], accessFlags := 1041 }

/-- the primitive byte -/
def k7 : Class := { plain "byte" none with kind := .primitive 'B', accessFlags := 0x411 }
/-- [B -/
def k8 : Class := { plain "[B" (some 0) with kind := .array 7 .byte, interfaces := #[3, 4], accessFlags := 1041 }

/-- the primitive int -/
def k9 : Class := { plain "int" none with kind := .primitive 'I', accessFlags := 0x411 }
/-- [I -/
def k10 : Class := { plain "[I" (some 0) with kind := .array 9 .int, interfaces := #[3, 4], accessFlags := 1041 }

def heap : Heap := #[{ cls := 10, slots := #[.int 1, .int 2, .int 3], vm := .none }]
def classes : Array Class := #[k0, k1, k2, k3, k4, k5, k6, k7, k8, k9, k10]
def interned : List (Array UInt16 × Addr) := []
def slotsUsed : Nat := 3
def theMethod : MethodId := ⟨1, 1⟩
def args0 : Array Value := #[.ref 0]
def aboutOver (below : List Frame) : State where
  vm := { classes := classes, interned := interned.toArray }
  heap := heap
  slotsUsed := slotsUsed
  threads := #[{ frames := .invoking theMethod args0 :: below }]
def below0 : List Frame := [.native { method := ⟨0, 0⟩, args := #[] }]
def about1 : State := aboutOver below0
def p0 : Program := .bare "" "" ""
def e0 : Env := launch0.env 0 0 0
theorem w_frames : about1.frames = Frame.invoking theMethod args0 :: below0 := rfl
set_option maxRecDepth 65536 in
theorem w_args : argsFit about1.vm theMethod args0 = true := by decide +kernel
set_option maxRecDepth 65536 in
theorem w_heap : heapFits about1 = true := by decide +kernel
set_option maxRecDepth 65536 in
theorem w_runnable : about1.curStatus? = some .runnable := by decide +kernel
set_option maxRecDepth 65536 in
theorem w_alone : about1.alone = true := by decide +kernel
set_option maxRecDepth 65536 in
theorem w_named : about1.methodNamed? x = some theMethod := by decide +kernel
set_option maxRecDepth 65536 in
theorem w_hears : about1.hears theMethod below0 = true := by decide +kernel
set_option maxRecDepth 65536 in
theorem w_ripe : about1.ripe theMethod args0 below0 = true := by decide +kernel
theorem w_running : about1.status = .running := rfl
set_option maxRecDepth 65536 in
theorem w_room : about1.hasRoom e0.platform room_1 = true :=
  launch0.hasRoom_least _ room_1 (by decide +kernel) (by decide +kernel) (by decide +kernel) (by decide +kernel) (by decide +kernel) (by decide +kernel)
theorem allAtoms_all (ts : List Jvm.Cond) (a : Array Jvm.Value) (st : Jvm.State) : (allAtoms ts).before a st = ts.all (fun c => c.before a st) := by
  induction ts with
  | nil => rfl
  | cons c t ih =>
    show (Jvm.Cond.and c (allAtoms t)).before a st = _
    rw [Jvm.Cond.before_and, ih, List.all_cons]
def words1 : List Jvm.Cond := Jvm.Cond.code x code maxLocals ret :: tables_1
/-- a 'code' word, met by the world's own term for the bytes: nothing is compared byte by byte -/
theorem code_word {y : MethodName} {bytes : ByteArray} {mx : Nat} {rt : Option FieldType} {a : Array Value} {s : State} {m : MethodId} {meth : Method} {c : Code} (h1 : s.methodNamed? y = some m) (h2 : s.vm.method? m = some meth) (h3 : meth.code = some c) (h4 : c.code = bytes)
    (h5 : (c.maxLocals == mx && c.exceptionTable.isEmpty && decide (c.maxStack ≤ mostOperands) && decide (meth.sig.returnType = rt) && !meth.locks && decide (parseMethodDescriptor y.desc = some meth.sig)) = true) : (Jvm.Cond.code y bytes mx rt).before a s = true := by
  simp only [Bool.and_eq_true, beq_iff_eq, Bool.not_eq_true', decide_eq_true_eq] at h5
  obtain ⟨⟨⟨⟨⟨g1, g2⟩, g3⟩, g4⟩, g5⟩, g6⟩ := h5
  simp [Cond.before, Cond.holds, Cond.value, h1, h2, h3, h4, g1, g2, g3, g4, g5, g6]
def isCode : Jvm.Cond → Bool
  | .code _ _ _ _ => true
  | _ => false
theorem all_split {L : List Jvm.Cond} {P : Jvm.Cond → Bool} (h1 : L.all (fun c => isCode c || P c) = true) (h2 : ∀ c ∈ L.filter isCode, P c = true) : L.all P = true := by
  refine List.all_eq_true.mpr fun c hc => ?_
  have h := List.all_eq_true.mp h1 c hc
  rcases Bool.eq_false_or_eq_true (isCode c) with hi | hi
  · exact h2 c (List.mem_filter.mpr ⟨hc, hi⟩)
  · simpa [hi] using h
set_option maxRecDepth 65536 in
theorem w_c0 : (Jvm.Cond.code x code maxLocals ret).before args0 about1 = true := code_word (m := ⟨1, 1⟩) (meth := k1m1) (c := k1c1) (by decide +kernel) rfl rfl rfl (by decide +kernel)
set_option maxRecDepth 65536 in
theorem w_c1 : (Jvm.Cond.code ({ cls := "FormatMarks", name := "<init>", desc := "(III)V" } : Jvm.MethodName) prog_1_method_1_code (5 : Nat) (Option.none : Option Jvm.ClassFile.FieldType)).before args0 about1 = true := code_word (m := ⟨2, 0⟩) (meth := k2m0) (c := k2c0) (by decide +kernel) rfl rfl rfl (by decide +kernel)
set_option maxRecDepth 65536 in
theorem w_c2 : (Jvm.Cond.code ({ cls := "java/lang/Object", name := "<init>", desc := "()V" } : Jvm.MethodName) object_method_1_code (1 : Nat) (Option.none : Option Jvm.ClassFile.FieldType)).before args0 about1 = true := code_word (m := ⟨0, 0⟩) (meth := k0m0) (c := k0c0) (by decide +kernel) rfl rfl rfl (by decide +kernel)
set_option maxRecDepth 65536 in
theorem w_c3 : (Jvm.Cond.code ({ cls := "FormatMarks", name := "clamp", desc := "(III)I" } : Jvm.MethodName) prog_1_method_51_code (4 : Nat) (Option.some Jvm.ClassFile.FieldType.int)).before args0 about1 = true := code_word (m := ⟨2, 45⟩) (meth := k2m45) (c := k2c45) (by decide +kernel) rfl rfl rfl (by decide +kernel)
set_option maxRecDepth 65536 in
theorem w_c4 : (Jvm.Cond.code ({ cls := "FormatMarks", name := "resetReplica", desc := "(I)V" } : Jvm.MethodName) prog_1_method_39_code (4 : Nat) (Option.none : Option Jvm.ClassFile.FieldType)).before args0 about1 = true := code_word (m := ⟨2, 35⟩) (meth := k2m35) (c := k2c35) (by decide +kernel) rfl rfl rfl (by decide +kernel)
set_option maxRecDepth 65536 in
theorem w_c5 : (Jvm.Cond.code ({ cls := "FormatMarks", name := "listIdx", desc := "(II)I" } : Jvm.MethodName) prog_1_method_49_code (3 : Nat) (Option.some Jvm.ClassFile.FieldType.int)).before args0 about1 = true := code_word (m := ⟨2, 43⟩) (meth := k2m43) (c := k2c43) (by decide +kernel) rfl rfl rfl (by decide +kernel)
set_option maxRecDepth 65536 in
theorem w_c6 : (Jvm.Cond.code ({ cls := "FormatMarks", name := "poolOp", desc := "(I)I" } : Jvm.MethodName) prog_1_method_15_code (2 : Nat) (Option.some Jvm.ClassFile.FieldType.int)).before args0 about1 = true := code_word (m := ⟨2, 12⟩) (meth := k2m12) (c := k2c12) (by decide +kernel) rfl rfl rfl (by decide +kernel)
set_option maxRecDepth 65536 in
theorem w_c7 : (Jvm.Cond.code ({ cls := "FormatMarks", name := "validEntry", desc := "(I)Z" } : Jvm.MethodName) prog_1_method_25_code (2 : Nat) (Option.some Jvm.ClassFile.FieldType.boolean)).before args0 about1 = true := code_word (m := ⟨2, 22⟩) (meth := k2m22) (c := k2c22) (by decide +kernel) rfl rfl rfl (by decide +kernel)
set_option maxRecDepth 65536 in
theorem w_c8 : (Jvm.Cond.code ({ cls := "FormatMarks", name := "deliver", desc := "(II)Z" } : Jvm.MethodName) prog_1_method_5_code (4 : Nat) (Option.some Jvm.ClassFile.FieldType.boolean)).before args0 about1 = true := code_word (m := ⟨2, 4⟩) (meth := k2m4) (c := k2c4) (by decide +kernel) rfl rfl rfl (by decide +kernel)
set_option maxRecDepth 65536 in
theorem w_c9 : (Jvm.Cond.code ({ cls := "FormatMarks", name := "opCount", desc := "()I" } : Jvm.MethodName) prog_1_method_12_code (1 : Nat) (Option.some Jvm.ClassFile.FieldType.int)).before args0 about1 = true := code_word (m := ⟨2, 9⟩) (meth := k2m9) (c := k2c9) (by decide +kernel) rfl rfl rfl (by decide +kernel)
set_option maxRecDepth 65536 in
theorem w_c10 : (Jvm.Cond.code ({ cls := "FormatMarks", name := "poolSize", desc := "()I" } : Jvm.MethodName) prog_1_method_14_code (1 : Nat) (Option.some Jvm.ClassFile.FieldType.int)).before args0 about1 = true := code_word (m := ⟨2, 11⟩) (meth := k2m11) (c := k2c11) (by decide +kernel) rfl rfl rfl (by decide +kernel)
set_option maxRecDepth 65536 in
theorem w_c11 : (Jvm.Cond.code ({ cls := "FormatMarksL6", name := "agrees", desc := "(LFormatMarks;IJI)Z" } : Jvm.MethodName) method_5_code (9 : Nat) (Option.some Jvm.ClassFile.FieldType.boolean)).before args0 about1 = true := code_word (m := ⟨1, 4⟩) (meth := k1m4) (c := k1c4) (by decide +kernel) rfl rfl rfl (by decide +kernel)
set_option maxRecDepth 65536 in
theorem w_c12 : (Jvm.Cond.code ({ cls := "FormatMarks", name := "clock", desc := "(I)I" } : Jvm.MethodName) prog_1_method_16_code (2 : Nat) (Option.some Jvm.ClassFile.FieldType.int)).before args0 about1 = true := code_word (m := ⟨2, 13⟩) (meth := k2m13) (c := k2c13) (by decide +kernel) rfl rfl rfl (by decide +kernel)
set_option maxRecDepth 65536 in
theorem w_c13 : (Jvm.Cond.code ({ cls := "FormatMarks", name := "validReplica", desc := "(I)Z" } : Jvm.MethodName) prog_1_method_22_code (2 : Nat) (Option.some Jvm.ClassFile.FieldType.boolean)).before args0 about1 = true := code_word (m := ⟨2, 19⟩) (meth := k2m19) (c := k2c19) (by decide +kernel) rfl rfl rfl (by decide +kernel)
set_option maxRecDepth 65536 in
theorem w_c14 : (Jvm.Cond.code ({ cls := "FormatMarks", name := "visibleCount", desc := "(I)I" } : Jvm.MethodName) prog_1_method_11_code (2 : Nat) (Option.some Jvm.ClassFile.FieldType.int)).before args0 about1 = true := code_word (m := ⟨2, 8⟩) (meth := k2m8) (c := k2c8) (by decide +kernel) rfl rfl rfl (by decide +kernel)
set_option maxRecDepth 65536 in
theorem w_c15 : (Jvm.Cond.code ({ cls := "FormatMarks", name := "erase", desc := "(II)I" } : Jvm.MethodName) prog_1_method_3_code (5 : Nat) (Option.some Jvm.ClassFile.FieldType.int)).before args0 about1 = true := code_word (m := ⟨2, 2⟩) (meth := k2m2) (c := k2c2) (by decide +kernel) rfl rfl rfl (by decide +kernel)
set_option maxRecDepth 65536 in
theorem w_c16 : (Jvm.Cond.code ({ cls := "FormatMarks", name := "eraseAllowed", desc := "(II)Z" } : Jvm.MethodName) prog_1_method_19_code (3 : Nat) (Option.some Jvm.ClassFile.FieldType.boolean)).before args0 about1 = true := code_word (m := ⟨2, 16⟩) (meth := k2m16) (c := k2c16) (by decide +kernel) rfl rfl rfl (by decide +kernel)
set_option maxRecDepth 65536 in
theorem w_c17 : (Jvm.Cond.code ({ cls := "FormatMarks", name := "hasRoom", desc := "()Z" } : Jvm.MethodName) prog_1_method_21_code (1 : Nat) (Option.some Jvm.ClassFile.FieldType.boolean)).before args0 about1 = true := code_word (m := ⟨2, 18⟩) (meth := k2m18) (c := k2c18) (by decide +kernel) rfl rfl rfl (by decide +kernel)
set_option maxRecDepth 65536 in
theorem w_c18 : (Jvm.Cond.code ({ cls := "FormatMarks", name := "slotAtPosition", desc := "(II)I" } : Jvm.MethodName) prog_1_method_40_code (3 : Nat) (Option.some Jvm.ClassFile.FieldType.int)).before args0 about1 = true := code_word (m := ⟨2, 36⟩) (meth := k2m36) (c := k2c36) (by decide +kernel) rfl rfl rfl (by decide +kernel)
set_option maxRecDepth 65536 in
theorem w_c19 : (Jvm.Cond.code ({ cls := "FormatMarks", name := "createOp", desc := "(III)I" } : Jvm.MethodName) prog_1_method_26_code (6 : Nat) (Option.some Jvm.ClassFile.FieldType.int)).before args0 about1 = true := code_word (m := ⟨2, 23⟩) (meth := k2m23) (c := k2c23) (by decide +kernel) rfl rfl rfl (by decide +kernel)
set_option maxRecDepth 65536 in
theorem w_c20 : (Jvm.Cond.code ({ cls := "FormatMarks", name := "setMarkFields", desc := "(IIII)V" } : Jvm.MethodName) prog_1_method_27_code (5 : Nat) (Option.none : Option Jvm.ClassFile.FieldType)).before args0 about1 = true := code_word (m := ⟨2, 24⟩) (meth := k2m24) (c := k2c24) (by decide +kernel) rfl rfl rfl (by decide +kernel)
set_option maxRecDepth 65536 in
theorem w_c21 : (Jvm.Cond.code ({ cls := "FormatMarks", name := "publish", desc := "(II)V" } : Jvm.MethodName) prog_1_method_28_code (3 : Nat) (Option.none : Option Jvm.ClassFile.FieldType)).before args0 about1 = true := code_word (m := ⟨2, 25⟩) (meth := k2m25) (c := k2c25) (by decide +kernel) rfl rfl rfl (by decide +kernel)
set_option maxRecDepth 65536 in
theorem w_c22 : (Jvm.Cond.code ({ cls := "FormatMarks", name := "applyOp", desc := "(II)Z" } : Jvm.MethodName) prog_1_method_34_code (5 : Nat) (Option.some Jvm.ClassFile.FieldType.boolean)).before args0 about1 = true := code_word (m := ⟨2, 30⟩) (meth := k2m30) (c := k2c30) (by decide +kernel) rfl rfl rfl (by decide +kernel)
set_option maxRecDepth 65536 in
theorem w_c23 : (Jvm.Cond.code ({ cls := "FormatMarks", name := "validOp", desc := "(I)Z" } : Jvm.MethodName) prog_1_method_24_code (2 : Nat) (Option.some Jvm.ClassFile.FieldType.boolean)).before args0 about1 = true := code_word (m := ⟨2, 21⟩) (meth := k2m21) (c := k2c21) (by decide +kernel) rfl rfl rfl (by decide +kernel)
set_option maxRecDepth 65536 in
theorem w_c24 : (Jvm.Cond.code ({ cls := "FormatMarks", name := "appIdx", desc := "(II)I" } : Jvm.MethodName) prog_1_method_47_code (3 : Nat) (Option.some Jvm.ClassFile.FieldType.int)).before args0 about1 = true := code_word (m := ⟨2, 41⟩) (meth := k2m41) (c := k2c41) (by decide +kernel) rfl rfl rfl (by decide +kernel)
set_option maxRecDepth 65536 in
theorem w_c25 : (Jvm.Cond.code ({ cls := "FormatMarks", name := "applyCharOp", desc := "(II)V" } : Jvm.MethodName) prog_1_method_35_code (6 : Nat) (Option.none : Option Jvm.ClassFile.FieldType)).before args0 about1 = true := code_word (m := ⟨2, 31⟩) (meth := k2m31) (c := k2c31) (by decide +kernel) rfl rfl rfl (by decide +kernel)
set_option maxRecDepth 65536 in
theorem w_c26 : (Jvm.Cond.code ({ cls := "FormatMarks", name := "validSlot", desc := "(I)Z" } : Jvm.MethodName) prog_1_method_23_code (2 : Nat) (Option.some Jvm.ClassFile.FieldType.boolean)).before args0 about1 = true := code_word (m := ⟨2, 20⟩) (meth := k2m20) (c := k2c20) (by decide +kernel) rfl rfl rfl (by decide +kernel)
set_option maxRecDepth 65536 in
theorem w_c27 : (Jvm.Cond.code ({ cls := "FormatMarks", name := "stateOf", desc := "(II)I" } : Jvm.MethodName) prog_1_method_38_code (4 : Nat) (Option.some Jvm.ClassFile.FieldType.int)).before args0 about1 = true := code_word (m := ⟨2, 34⟩) (meth := k2m34) (c := k2c34) (by decide +kernel) rfl rfl rfl (by decide +kernel)
set_option maxRecDepth 65536 in
theorem w_c28 : (Jvm.Cond.code ({ cls := "FormatMarks", name := "slotIdx", desc := "(II)I" } : Jvm.MethodName) prog_1_method_48_code (3 : Nat) (Option.some Jvm.ClassFile.FieldType.int)).before args0 about1 = true := code_word (m := ⟨2, 42⟩) (meth := k2m42) (c := k2c42) (by decide +kernel) rfl rfl rfl (by decide +kernel)
set_option maxRecDepth 65536 in
theorem w_c29 : (Jvm.Cond.code ({ cls := "FormatMarks", name := "dropVisible", desc := "(II)V" } : Jvm.MethodName) prog_1_method_43_code (6 : Nat) (Option.none : Option Jvm.ClassFile.FieldType)).before args0 about1 = true := code_word (m := ⟨2, 39⟩) (meth := k2m39) (c := k2c39) (by decide +kernel) rfl rfl rfl (by decide +kernel)
set_option maxRecDepth 65536 in
theorem w_c30 : (Jvm.Cond.code ({ cls := "FormatMarks", name := "appendEntry", desc := "(I)V" } : Jvm.MethodName) prog_1_method_32_code (2 : Nat) (Option.none : Option Jvm.ClassFile.FieldType)).before args0 about1 = true := code_word (m := ⟨2, 28⟩) (meth := k2m28) (c := k2c28) (by decide +kernel) rfl rfl rfl (by decide +kernel)
set_option maxRecDepth 65536 in
theorem w_c31 : (Jvm.Cond.code ({ cls := "FormatMarks", name := "opField", desc := "(II)I" } : Jvm.MethodName) prog_1_method_13_code (3 : Nat) (Option.some Jvm.ClassFile.FieldType.int)).before args0 about1 = true := code_word (m := ⟨2, 10⟩) (meth := k2m10) (c := k2c10) (by decide +kernel) rfl rfl rfl (by decide +kernel)
set_option maxRecDepth 65536 in
theorem w_c32 : (Jvm.Cond.code ({ cls := "FormatMarks", name := "headerField", desc := "(II)I" } : Jvm.MethodName) prog_1_method_29_code (3 : Nat) (Option.some Jvm.ClassFile.FieldType.int)).before args0 about1 = true := code_word (m := ⟨2, 26⟩) (meth := k2m26) (c := k2c26) (by decide +kernel) rfl rfl rfl (by decide +kernel)
set_option maxRecDepth 65536 in
theorem w_c33 : (Jvm.Cond.code ({ cls := "FormatMarks", name := "hasApplied", desc := "(II)Z" } : Jvm.MethodName) prog_1_method_17_code (3 : Nat) (Option.some Jvm.ClassFile.FieldType.boolean)).before args0 about1 = true := code_word (m := ⟨2, 14⟩) (meth := k2m14) (c := k2c14) (by decide +kernel) rfl rfl rfl (by decide +kernel)
set_option maxRecDepth 65536 in
theorem w_c34 : (Jvm.Cond.code ({ cls := "FormatMarks", name := "removeEntry", desc := "(I)V" } : Jvm.MethodName) prog_1_method_33_code (4 : Nat) (Option.none : Option Jvm.ClassFile.FieldType)).before args0 about1 = true := code_word (m := ⟨2, 29⟩) (meth := k2m29) (c := k2c29) (by decide +kernel) rfl rfl rfl (by decide +kernel)
set_option maxRecDepth 65536 in
theorem w_c35 : (Jvm.Cond.code ({ cls := "FormatMarks", name := "insert", desc := "(II)I" } : Jvm.MethodName) prog_1_method_2_code (4 : Nat) (Option.some Jvm.ClassFile.FieldType.int)).before args0 about1 = true := code_word (m := ⟨2, 1⟩) (meth := k2m1) (c := k2c1) (by decide +kernel) rfl rfl rfl (by decide +kernel)
set_option maxRecDepth 65536 in
theorem w_c36 : (Jvm.Cond.code ({ cls := "FormatMarks", name := "insertAllowed", desc := "(II)Z" } : Jvm.MethodName) prog_1_method_18_code (3 : Nat) (Option.some Jvm.ClassFile.FieldType.boolean)).before args0 about1 = true := code_word (m := ⟨2, 15⟩) (meth := k2m15) (c := k2c15) (by decide +kernel) rfl rfl rfl (by decide +kernel)
set_option maxRecDepth 65536 in
theorem w_c37 : (Jvm.Cond.code ({ cls := "FormatMarks", name := "addVisible", desc := "(II)V" } : Jvm.MethodName) prog_1_method_42_code (6 : Nat) (Option.none : Option Jvm.ClassFile.FieldType)).before args0 about1 = true := code_word (m := ⟨2, 38⟩) (meth := k2m38) (c := k2c38) (by decide +kernel) rfl rfl rfl (by decide +kernel)
set_option maxRecDepth 65536 in
theorem w_c38 : (Jvm.Cond.code ({ cls := "FormatMarks", name := "mark", desc := "(IIII)I" } : Jvm.MethodName) prog_1_method_4_code (12 : Nat) (Option.some Jvm.ClassFile.FieldType.int)).before args0 about1 = true := code_word (m := ⟨2, 3⟩) (meth := k2m3) (c := k2c3) (by decide +kernel) rfl rfl rfl (by decide +kernel)
set_option maxRecDepth 65536 in
theorem w_c39 : (Jvm.Cond.code ({ cls := "FormatMarks", name := "markAllowed", desc := "(IIII)Z" } : Jvm.MethodName) prog_1_method_20_code (5 : Nat) (Option.some Jvm.ClassFile.FieldType.boolean)).before args0 about1 = true := code_word (m := ⟨2, 17⟩) (meth := k2m17) (c := k2c17) (by decide +kernel) rfl rfl rfl (by decide +kernel)
set_option maxRecDepth 65536 in
theorem w_c40 : (Jvm.Cond.code ({ cls := "FormatMarks", name := "markEnd", desc := "(III)I" } : Jvm.MethodName) prog_1_method_44_code (5 : Nat) (Option.some Jvm.ClassFile.FieldType.int)).before args0 about1 = true := code_word (m := ⟨2, 40⟩) (meth := k2m40) (c := k2c40) (by decide +kernel) rfl rfl rfl (by decide +kernel)
set_option maxRecDepth 65536 in
theorem w_c41 : (Jvm.Cond.code ({ cls := "FormatMarks", name := "nextVisibleAfter", desc := "(II)I" } : Jvm.MethodName) prog_1_method_41_code (6 : Nat) (Option.some Jvm.ClassFile.FieldType.int)).before args0 about1 = true := code_word (m := ⟨2, 37⟩) (meth := k2m37) (c := k2c37) (by decide +kernel) rfl rfl rfl (by decide +kernel)
set_option maxRecDepth 65536 in
theorem w_c42 : (Jvm.Cond.code ({ cls := "FormatMarks", name := "applyMarkOp", desc := "(II)V" } : Jvm.MethodName) prog_1_method_36_code (6 : Nat) (Option.none : Option Jvm.ClassFile.FieldType)).before args0 about1 = true := code_word (m := ⟨2, 32⟩) (meth := k2m32) (c := k2c32) (by decide +kernel) rfl rfl rfl (by decide +kernel)
set_option maxRecDepth 65536 in
theorem w_c43 : (Jvm.Cond.code ({ cls := "FormatMarks", name := "offerWinner", desc := "(III)V" } : Jvm.MethodName) prog_1_method_37_code (7 : Nat) (Option.none : Option Jvm.ClassFile.FieldType)).before args0 about1 = true := code_word (m := ⟨2, 33⟩) (meth := k2m33) (c := k2c33) (by decide +kernel) rfl rfl rfl (by decide +kernel)
set_option maxRecDepth 65536 in
theorem w_c44 : (Jvm.Cond.code ({ cls := "FormatMarks", name := "winIdx", desc := "(III)I" } : Jvm.MethodName) prog_1_method_50_code (4 : Nat) (Option.some Jvm.ClassFile.FieldType.int)).before args0 about1 = true := code_word (m := ⟨2, 44⟩) (meth := k2m44) (c := k2c44) (by decide +kernel) rfl rfl rfl (by decide +kernel)
set_option maxRecDepth 65536 in
theorem w_c45 : (Jvm.Cond.code ({ cls := "FormatMarks", name := "greater", desc := "(II)Z" } : Jvm.MethodName) prog_1_method_31_code (3 : Nat) (Option.some Jvm.ClassFile.FieldType.boolean)).before args0 about1 = true := code_word (m := ⟨2, 27⟩) (meth := k2m27) (c := k2c27) (by decide +kernel) rfl rfl rfl (by decide +kernel)
set_option maxRecDepth 65536 in
theorem w_c46 : (Jvm.Cond.code ({ cls := "FormatMarksL6", name := "sel", desc := "(IJJJJ)J" } : Jvm.MethodName) method_3_code (9 : Nat) (Option.some Jvm.ClassFile.FieldType.long)).before args0 about1 = true := code_word (m := ⟨1, 2⟩) (meth := k1m2) (c := k1c2) (by decide +kernel) rfl rfl rfl (by decide +kernel)
set_option maxRecDepth 65536 in
theorem w_c47 : (Jvm.Cond.code ({ cls := "FormatMarks", name := "sync", desc := "(II)I" } : Jvm.MethodName) prog_1_method_8_code (5 : Nat) (Option.some Jvm.ClassFile.FieldType.int)).before args0 about1 = true := code_word (m := ⟨2, 7⟩) (meth := k2m7) (c := k2c7) (by decide +kernel) rfl rfl rfl (by decide +kernel)
set_option maxRecDepth 65536 in
theorem w_c48 : (Jvm.Cond.code ({ cls := "FormatMarksL6", name := "bits", desc := "(J)I" } : Jvm.MethodName) method_4_code (4 : Nat) (Option.some Jvm.ClassFile.FieldType.int)).before args0 about1 = true := code_word (m := ⟨1, 3⟩) (meth := k1m3) (c := k1c3) (by decide +kernel) rfl rfl rfl (by decide +kernel)
set_option maxRecDepth 65536 in
theorem w_c49 : (Jvm.Cond.code ({ cls := "FormatMarks", name := "discard", desc := "(I)Z" } : Jvm.MethodName) prog_1_method_7_code (2 : Nat) (Option.some Jvm.ClassFile.FieldType.boolean)).before args0 about1 = true := code_word (m := ⟨2, 6⟩) (meth := k2m6) (c := k2c6) (by decide +kernel) rfl rfl rfl (by decide +kernel)
set_option maxRecDepth 65536 in
theorem w_c50 : (Jvm.Cond.code ({ cls := "FormatMarks", name := "duplicate", desc := "(I)Z" } : Jvm.MethodName) prog_1_method_6_code (2 : Nat) (Option.some Jvm.ClassFile.FieldType.boolean)).before args0 about1 = true := code_word (m := ⟨2, 5⟩) (meth := k2m5) (c := k2c5) (by decide +kernel) rfl rfl rfl (by decide +kernel)
def codes1 : List Jvm.Cond := [Jvm.Cond.code x code maxLocals ret, Jvm.Cond.code ({ cls := "FormatMarks", name := "<init>", desc := "(III)V" } : Jvm.MethodName) prog_1_method_1_code (5 : Nat) (Option.none : Option Jvm.ClassFile.FieldType), Jvm.Cond.code ({ cls := "java/lang/Object", name := "<init>", desc := "()V" } : Jvm.MethodName) object_method_1_code (1 : Nat) (Option.none : Option Jvm.ClassFile.FieldType), Jvm.Cond.code ({ cls := "FormatMarks", name := "clamp", desc := "(III)I" } : Jvm.MethodName) prog_1_method_51_code (4 : Nat) (Option.some Jvm.ClassFile.FieldType.int), Jvm.Cond.code ({ cls := "FormatMarks", name := "resetReplica", desc := "(I)V" } : Jvm.MethodName) prog_1_method_39_code (4 : Nat) (Option.none : Option Jvm.ClassFile.FieldType), Jvm.Cond.code ({ cls := "FormatMarks", name := "listIdx", desc := "(II)I" } : Jvm.MethodName) prog_1_method_49_code (3 : Nat) (Option.some Jvm.ClassFile.FieldType.int), Jvm.Cond.code ({ cls := "FormatMarks", name := "poolOp", desc := "(I)I" } : Jvm.MethodName) prog_1_method_15_code (2 : Nat) (Option.some Jvm.ClassFile.FieldType.int), Jvm.Cond.code ({ cls := "FormatMarks", name := "validEntry", desc := "(I)Z" } : Jvm.MethodName) prog_1_method_25_code (2 : Nat) (Option.some Jvm.ClassFile.FieldType.boolean), Jvm.Cond.code ({ cls := "FormatMarks", name := "deliver", desc := "(II)Z" } : Jvm.MethodName) prog_1_method_5_code (4 : Nat) (Option.some Jvm.ClassFile.FieldType.boolean), Jvm.Cond.code ({ cls := "FormatMarks", name := "opCount", desc := "()I" } : Jvm.MethodName) prog_1_method_12_code (1 : Nat) (Option.some Jvm.ClassFile.FieldType.int), Jvm.Cond.code ({ cls := "FormatMarks", name := "poolSize", desc := "()I" } : Jvm.MethodName) prog_1_method_14_code (1 : Nat) (Option.some Jvm.ClassFile.FieldType.int), Jvm.Cond.code ({ cls := "FormatMarksL6", name := "agrees", desc := "(LFormatMarks;IJI)Z" } : Jvm.MethodName) method_5_code (9 : Nat) (Option.some Jvm.ClassFile.FieldType.boolean), Jvm.Cond.code ({ cls := "FormatMarks", name := "clock", desc := "(I)I" } : Jvm.MethodName) prog_1_method_16_code (2 : Nat) (Option.some Jvm.ClassFile.FieldType.int), Jvm.Cond.code ({ cls := "FormatMarks", name := "validReplica", desc := "(I)Z" } : Jvm.MethodName) prog_1_method_22_code (2 : Nat) (Option.some Jvm.ClassFile.FieldType.boolean), Jvm.Cond.code ({ cls := "FormatMarks", name := "visibleCount", desc := "(I)I" } : Jvm.MethodName) prog_1_method_11_code (2 : Nat) (Option.some Jvm.ClassFile.FieldType.int), Jvm.Cond.code ({ cls := "FormatMarks", name := "erase", desc := "(II)I" } : Jvm.MethodName) prog_1_method_3_code (5 : Nat) (Option.some Jvm.ClassFile.FieldType.int), Jvm.Cond.code ({ cls := "FormatMarks", name := "eraseAllowed", desc := "(II)Z" } : Jvm.MethodName) prog_1_method_19_code (3 : Nat) (Option.some Jvm.ClassFile.FieldType.boolean), Jvm.Cond.code ({ cls := "FormatMarks", name := "hasRoom", desc := "()Z" } : Jvm.MethodName) prog_1_method_21_code (1 : Nat) (Option.some Jvm.ClassFile.FieldType.boolean), Jvm.Cond.code ({ cls := "FormatMarks", name := "slotAtPosition", desc := "(II)I" } : Jvm.MethodName) prog_1_method_40_code (3 : Nat) (Option.some Jvm.ClassFile.FieldType.int), Jvm.Cond.code ({ cls := "FormatMarks", name := "createOp", desc := "(III)I" } : Jvm.MethodName) prog_1_method_26_code (6 : Nat) (Option.some Jvm.ClassFile.FieldType.int), Jvm.Cond.code ({ cls := "FormatMarks", name := "setMarkFields", desc := "(IIII)V" } : Jvm.MethodName) prog_1_method_27_code (5 : Nat) (Option.none : Option Jvm.ClassFile.FieldType), Jvm.Cond.code ({ cls := "FormatMarks", name := "publish", desc := "(II)V" } : Jvm.MethodName) prog_1_method_28_code (3 : Nat) (Option.none : Option Jvm.ClassFile.FieldType), Jvm.Cond.code ({ cls := "FormatMarks", name := "applyOp", desc := "(II)Z" } : Jvm.MethodName) prog_1_method_34_code (5 : Nat) (Option.some Jvm.ClassFile.FieldType.boolean), Jvm.Cond.code ({ cls := "FormatMarks", name := "validOp", desc := "(I)Z" } : Jvm.MethodName) prog_1_method_24_code (2 : Nat) (Option.some Jvm.ClassFile.FieldType.boolean), Jvm.Cond.code ({ cls := "FormatMarks", name := "appIdx", desc := "(II)I" } : Jvm.MethodName) prog_1_method_47_code (3 : Nat) (Option.some Jvm.ClassFile.FieldType.int), Jvm.Cond.code ({ cls := "FormatMarks", name := "applyCharOp", desc := "(II)V" } : Jvm.MethodName) prog_1_method_35_code (6 : Nat) (Option.none : Option Jvm.ClassFile.FieldType), Jvm.Cond.code ({ cls := "FormatMarks", name := "validSlot", desc := "(I)Z" } : Jvm.MethodName) prog_1_method_23_code (2 : Nat) (Option.some Jvm.ClassFile.FieldType.boolean), Jvm.Cond.code ({ cls := "FormatMarks", name := "stateOf", desc := "(II)I" } : Jvm.MethodName) prog_1_method_38_code (4 : Nat) (Option.some Jvm.ClassFile.FieldType.int), Jvm.Cond.code ({ cls := "FormatMarks", name := "slotIdx", desc := "(II)I" } : Jvm.MethodName) prog_1_method_48_code (3 : Nat) (Option.some Jvm.ClassFile.FieldType.int), Jvm.Cond.code ({ cls := "FormatMarks", name := "dropVisible", desc := "(II)V" } : Jvm.MethodName) prog_1_method_43_code (6 : Nat) (Option.none : Option Jvm.ClassFile.FieldType), Jvm.Cond.code ({ cls := "FormatMarks", name := "appendEntry", desc := "(I)V" } : Jvm.MethodName) prog_1_method_32_code (2 : Nat) (Option.none : Option Jvm.ClassFile.FieldType), Jvm.Cond.code ({ cls := "FormatMarks", name := "opField", desc := "(II)I" } : Jvm.MethodName) prog_1_method_13_code (3 : Nat) (Option.some Jvm.ClassFile.FieldType.int), Jvm.Cond.code ({ cls := "FormatMarks", name := "headerField", desc := "(II)I" } : Jvm.MethodName) prog_1_method_29_code (3 : Nat) (Option.some Jvm.ClassFile.FieldType.int), Jvm.Cond.code ({ cls := "FormatMarks", name := "hasApplied", desc := "(II)Z" } : Jvm.MethodName) prog_1_method_17_code (3 : Nat) (Option.some Jvm.ClassFile.FieldType.boolean), Jvm.Cond.code ({ cls := "FormatMarks", name := "removeEntry", desc := "(I)V" } : Jvm.MethodName) prog_1_method_33_code (4 : Nat) (Option.none : Option Jvm.ClassFile.FieldType), Jvm.Cond.code ({ cls := "FormatMarks", name := "insert", desc := "(II)I" } : Jvm.MethodName) prog_1_method_2_code (4 : Nat) (Option.some Jvm.ClassFile.FieldType.int), Jvm.Cond.code ({ cls := "FormatMarks", name := "insertAllowed", desc := "(II)Z" } : Jvm.MethodName) prog_1_method_18_code (3 : Nat) (Option.some Jvm.ClassFile.FieldType.boolean), Jvm.Cond.code ({ cls := "FormatMarks", name := "addVisible", desc := "(II)V" } : Jvm.MethodName) prog_1_method_42_code (6 : Nat) (Option.none : Option Jvm.ClassFile.FieldType), Jvm.Cond.code ({ cls := "FormatMarks", name := "mark", desc := "(IIII)I" } : Jvm.MethodName) prog_1_method_4_code (12 : Nat) (Option.some Jvm.ClassFile.FieldType.int), Jvm.Cond.code ({ cls := "FormatMarks", name := "markAllowed", desc := "(IIII)Z" } : Jvm.MethodName) prog_1_method_20_code (5 : Nat) (Option.some Jvm.ClassFile.FieldType.boolean), Jvm.Cond.code ({ cls := "FormatMarks", name := "markEnd", desc := "(III)I" } : Jvm.MethodName) prog_1_method_44_code (5 : Nat) (Option.some Jvm.ClassFile.FieldType.int), Jvm.Cond.code ({ cls := "FormatMarks", name := "nextVisibleAfter", desc := "(II)I" } : Jvm.MethodName) prog_1_method_41_code (6 : Nat) (Option.some Jvm.ClassFile.FieldType.int), Jvm.Cond.code ({ cls := "FormatMarks", name := "applyMarkOp", desc := "(II)V" } : Jvm.MethodName) prog_1_method_36_code (6 : Nat) (Option.none : Option Jvm.ClassFile.FieldType), Jvm.Cond.code ({ cls := "FormatMarks", name := "offerWinner", desc := "(III)V" } : Jvm.MethodName) prog_1_method_37_code (7 : Nat) (Option.none : Option Jvm.ClassFile.FieldType), Jvm.Cond.code ({ cls := "FormatMarks", name := "winIdx", desc := "(III)I" } : Jvm.MethodName) prog_1_method_50_code (4 : Nat) (Option.some Jvm.ClassFile.FieldType.int), Jvm.Cond.code ({ cls := "FormatMarks", name := "greater", desc := "(II)Z" } : Jvm.MethodName) prog_1_method_31_code (3 : Nat) (Option.some Jvm.ClassFile.FieldType.boolean), Jvm.Cond.code ({ cls := "FormatMarksL6", name := "sel", desc := "(IJJJJ)J" } : Jvm.MethodName) method_3_code (9 : Nat) (Option.some Jvm.ClassFile.FieldType.long), Jvm.Cond.code ({ cls := "FormatMarks", name := "sync", desc := "(II)I" } : Jvm.MethodName) prog_1_method_8_code (5 : Nat) (Option.some Jvm.ClassFile.FieldType.int), Jvm.Cond.code ({ cls := "FormatMarksL6", name := "bits", desc := "(J)I" } : Jvm.MethodName) method_4_code (4 : Nat) (Option.some Jvm.ClassFile.FieldType.int), Jvm.Cond.code ({ cls := "FormatMarks", name := "discard", desc := "(I)Z" } : Jvm.MethodName) prog_1_method_7_code (2 : Nat) (Option.some Jvm.ClassFile.FieldType.boolean), Jvm.Cond.code ({ cls := "FormatMarks", name := "duplicate", desc := "(I)Z" } : Jvm.MethodName) prog_1_method_6_code (2 : Nat) (Option.some Jvm.ClassFile.FieldType.boolean)]
set_option maxRecDepth 65536 in
theorem codes_eq : words1.filter isCode = codes1 := rfl
theorem w_codes : ∀ c ∈ words1.filter isCode, c.before args0 about1 = true := by
  rw [codes_eq]
  intro c hc
  simp only [codes1, List.mem_cons, List.not_mem_nil, or_false] at hc
  rcases hc with rfl | rfl | rfl | rfl | rfl | rfl | rfl | rfl | rfl | rfl | rfl | rfl | rfl | rfl | rfl | rfl | rfl | rfl | rfl | rfl | rfl | rfl | rfl | rfl | rfl | rfl | rfl | rfl | rfl | rfl | rfl | rfl | rfl | rfl | rfl | rfl | rfl | rfl | rfl | rfl | rfl | rfl | rfl | rfl | rfl | rfl | rfl | rfl | rfl | rfl | rfl
  · exact w_c0
  · exact w_c1
  · exact w_c2
  · exact w_c3
  · exact w_c4
  · exact w_c5
  · exact w_c6
  · exact w_c7
  · exact w_c8
  · exact w_c9
  · exact w_c10
  · exact w_c11
  · exact w_c12
  · exact w_c13
  · exact w_c14
  · exact w_c15
  · exact w_c16
  · exact w_c17
  · exact w_c18
  · exact w_c19
  · exact w_c20
  · exact w_c21
  · exact w_c22
  · exact w_c23
  · exact w_c24
  · exact w_c25
  · exact w_c26
  · exact w_c27
  · exact w_c28
  · exact w_c29
  · exact w_c30
  · exact w_c31
  · exact w_c32
  · exact w_c33
  · exact w_c34
  · exact w_c35
  · exact w_c36
  · exact w_c37
  · exact w_c38
  · exact w_c39
  · exact w_c40
  · exact w_c41
  · exact w_c42
  · exact w_c43
  · exact w_c44
  · exact w_c45
  · exact w_c46
  · exact w_c47
  · exact w_c48
  · exact w_c49
  · exact w_c50
set_option maxRecDepth 65536 in
theorem w_t1 : (words1.take 24).all (fun c => isCode c || c.before args0 about1) = true := by decide +kernel
set_option maxRecDepth 65536 in
theorem w_t2 : ((words1.drop 24).take 24).all (fun c => isCode c || c.before args0 about1) = true := by decide +kernel
set_option maxRecDepth 65536 in
theorem w_t3 : (((words1.drop 24).drop 24).take 24).all (fun c => isCode c || c.before args0 about1) = true := by decide +kernel
set_option maxRecDepth 65536 in
theorem w_t4 : ((((words1.drop 24).drop 24).drop 24).take 24).all (fun c => isCode c || c.before args0 about1) = true := by decide +kernel
set_option maxRecDepth 65536 in
theorem w_t5 : (((((words1.drop 24).drop 24).drop 24).drop 24).take 24).all (fun c => isCode c || c.before args0 about1) = true := by decide +kernel
set_option maxRecDepth 65536 in
theorem w_t6 : ((((((words1.drop 24).drop 24).drop 24).drop 24).drop 24).take 24).all (fun c => isCode c || c.before args0 about1) = true := by decide +kernel
set_option maxRecDepth 65536 in
theorem w_t7 : (((((((words1.drop 24).drop 24).drop 24).drop 24).drop 24).drop 24).take 24).all (fun c => isCode c || c.before args0 about1) = true := by decide +kernel
set_option maxRecDepth 65536 in
theorem w_t8 : ((((((((words1.drop 24).drop 24).drop 24).drop 24).drop 24).drop 24).drop 24).take 24).all (fun c => isCode c || c.before args0 about1) = true := by decide +kernel
set_option maxRecDepth 65536 in
theorem w_t9 : (((((((((words1.drop 24).drop 24).drop 24).drop 24).drop 24).drop 24).drop 24).drop 24).take 24).all (fun c => isCode c || c.before args0 about1) = true := by decide +kernel
set_option maxRecDepth 65536 in
theorem w_t10 : ((((((((((words1.drop 24).drop 24).drop 24).drop 24).drop 24).drop 24).drop 24).drop 24).drop 24).take 24).all (fun c => isCode c || c.before args0 about1) = true := by decide +kernel
set_option maxRecDepth 65536 in
theorem w_t11 : ((((((((((words1.drop 24).drop 24).drop 24).drop 24).drop 24).drop 24).drop 24).drop 24).drop 24).drop 24).all (fun c => isCode c || c.before args0 about1) = true := by decide +kernel
theorem w_tables : (allAtoms (Jvm.Cond.code x code maxLocals ret :: tables_1)).before args0 about1 = true := by
  rw [allAtoms_all]
  show words1.all (fun c => c.before args0 about1) = true
  refine all_split ?_ w_codes
  rw [← List.take_append_drop 24 words1, List.all_append, w_t1, ← List.take_append_drop 24 (words1.drop 24), List.all_append, w_t2, ← List.take_append_drop 24 ((words1.drop 24).drop 24), List.all_append, w_t3, ← List.take_append_drop 24 (((words1.drop 24).drop 24).drop 24), List.all_append, w_t4, ← List.take_append_drop 24 ((((words1.drop 24).drop 24).drop 24).drop 24), List.all_append, w_t5, ← List.take_append_drop 24 (((((words1.drop 24).drop 24).drop 24).drop 24).drop 24), List.all_append, w_t6, ← List.take_append_drop 24 ((((((words1.drop 24).drop 24).drop 24).drop 24).drop 24).drop 24), List.all_append, w_t7, ← List.take_append_drop 24 (((((((words1.drop 24).drop 24).drop 24).drop 24).drop 24).drop 24).drop 24), List.all_append, w_t8, ← List.take_append_drop 24 ((((((((words1.drop 24).drop 24).drop 24).drop 24).drop 24).drop 24).drop 24).drop 24), List.all_append, w_t9, ← List.take_append_drop 24 (((((((((words1.drop 24).drop 24).drop 24).drop 24).drop 24).drop 24).drop 24).drop 24).drop 24), List.all_append, w_t10, w_t11]
  rfl
set_option maxRecDepth 65536 in
theorem w_rest : rest_1_c.before args0 about1 = true := by decide +kernel
set_option maxRecDepth 65536 in
theorem w_case : (Jvm.Cond.and given_1 narrow_1).before args0 about1 = true := by decide +kernel
theorem w_applies : (headSpec (Jvm.Cond.code x code maxLocals ret :: tables_1) room_1).applies x e0.platform about1 = true :=
  (Spec.applies_iff w_frames).mpr ⟨w_running, w_runnable, w_alone, w_named, w_hears, w_ripe, w_room, w_tables⟩
theorem atStart : AtStart classFile x code maxLocals ret World_1 tables_1 room_1 Calls_1 rest_1 Pre_1 launch0 p0 e0 about1 theMethod args0 below0 :=
  ⟨lists_1, trivial, launch0.admits_env _ _ _, launch0.least_env, fairChoices_fair.cas, fairChoices_fair.clock, w_frames, w_args, w_heap, w_applies, trivial, w_rest, w_case⟩
end start1
theorem witness_1 : WitnessClaimed_1 := ⟨start1.p0, start1.e0, start1.about1, start1.theMethod, start1.args0, start1.below0, start1.atStart⟩
end Jvm.Pilot.@@N@@
