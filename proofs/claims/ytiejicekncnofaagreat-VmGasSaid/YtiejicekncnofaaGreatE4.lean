/-
  Part 4 of what the row needs: the executor and what is said of the program's functions, each shown; no condition.
-/
import Derived.IntWalk
import Derived.KernelRfl
import Derived.Laws.Bits64
import Derived.Laws.Externs
import Derived.Shelf.Bits.Mul64
import Derived.Shelf.SlGeneric
import Derived.Shelf.SlicesE.Clone
import Derived.Shelf.Strings.Builder1
import Derived.Shelf.Strings.Builder2
import Derived.Shelf.Strings.BuilderF
import Derived.Shelf.Strings.Prefix
import Derived.Shelf.Strings.Repeat
import Derived.Test.YtiejicekncnofaaGreatProg
import Derived.Test.YtiejicekncnofaaGreatE3
section
namespace Go.Proofs.Vm
open Go Go.Abs
def u (n : Int) : AV := .v (.int .u64 n)
def i64 (n : Int) : AV := .v (.int .i64 n)
def u8 (n : Int) : AV := .v (.int .u8 n)
def bo (b : Bool) : AV := .v (.bool b)
def st (s : ByteArray) : AV := .v (.string s)
def J : AV := .junk
def U (a b c d : Int) : AV := .agg [u a, u b, u c, u d]
def tu4 (l : List AV) : List AV := [u (l.getD 0 J).toInt, u (l.getD 1 J).toInt, u (l.getD 2 J).toInt, u (l.getD 3 J).toInt]
abbrev ld4 (l : List Int) : List AV := tu4 (l.map u)
def dm4 (l : List Int) : Bool := decide (0 < (l.map u).length) && (AV.isInt .u64 ((l.map u).getD 0 J) && (decide (1 < (l.map u).length) && (AV.isInt .u64 ((l.map u).getD 1 J) && (decide (2 < (l.map u).length) && (AV.isInt .u64 ((l.map u).getD 2 J) && (decide (3 < (l.map u).length) && (AV.isInt .u64 ((l.map u).getD 3 J) && true)))))))
def tu5 (l : List AV) : List AV := [u (l.getD 0 J).toInt, u (l.getD 1 J).toInt, u (l.getD 2 J).toInt, u (l.getD 3 J).toInt, u (l.getD 4 J).toInt]
abbrev ld5 (l : List Int) : List AV := tu5 (l.map u)
def dm5 (l : List Int) : Bool := decide (0 < (l.map u).length) && (AV.isInt .u64 ((l.map u).getD 0 J) && (decide (1 < (l.map u).length) && (AV.isInt .u64 ((l.map u).getD 1 J) && (decide (2 < (l.map u).length) && (AV.isInt .u64 ((l.map u).getD 2 J) && (decide (3 < (l.map u).length) && (AV.isInt .u64 ((l.map u).getD 3 J) && (decide (4 < (l.map u).length) && (AV.isInt .u64 ((l.map u).getD 4 J) && true)))))))))
def tu8 (l : List AV) : List AV := [u (l.getD 0 J).toInt, u (l.getD 1 J).toInt, u (l.getD 2 J).toInt, u (l.getD 3 J).toInt, u (l.getD 4 J).toInt, u (l.getD 5 J).toInt, u (l.getD 6 J).toInt, u (l.getD 7 J).toInt]
abbrev ld8 (l : List Int) : List AV := tu8 (l.map u)
def dm8 (l : List Int) : Bool := decide (0 < (l.map u).length) && (AV.isInt .u64 ((l.map u).getD 0 J) && (decide (1 < (l.map u).length) && (AV.isInt .u64 ((l.map u).getD 1 J) && (decide (2 < (l.map u).length) && (AV.isInt .u64 ((l.map u).getD 2 J) && (decide (3 < (l.map u).length) && (AV.isInt .u64 ((l.map u).getD 3 J) && (decide (4 < (l.map u).length) && (AV.isInt .u64 ((l.map u).getD 4 J) && (decide (5 < (l.map u).length) && (AV.isInt .u64 ((l.map u).getD 5 J) && (decide (6 < (l.map u).length) && (AV.isInt .u64 ((l.map u).getD 6 J) && (decide (7 < (l.map u).length) && (AV.isInt .u64 ((l.map u).getD 7 J) && true)))))))))))))))
def tu12 (l : List AV) : List AV := [u (l.getD 0 J).toInt, u (l.getD 1 J).toInt, u (l.getD 2 J).toInt, u (l.getD 3 J).toInt, u (l.getD 4 J).toInt, u (l.getD 5 J).toInt, u (l.getD 6 J).toInt, u (l.getD 7 J).toInt, u (l.getD 8 J).toInt, u (l.getD 9 J).toInt, u (l.getD 10 J).toInt, u (l.getD 11 J).toInt]
abbrev ld12 (l : List Int) : List AV := tu12 (l.map u)
def dm12 (l : List Int) : Bool := decide (0 < (l.map u).length) && (AV.isInt .u64 ((l.map u).getD 0 J) && (decide (1 < (l.map u).length) && (AV.isInt .u64 ((l.map u).getD 1 J) && (decide (2 < (l.map u).length) && (AV.isInt .u64 ((l.map u).getD 2 J) && (decide (3 < (l.map u).length) && (AV.isInt .u64 ((l.map u).getD 3 J) && (decide (4 < (l.map u).length) && (AV.isInt .u64 ((l.map u).getD 4 J) && (decide (5 < (l.map u).length) && (AV.isInt .u64 ((l.map u).getD 5 J) && (decide (6 < (l.map u).length) && (AV.isInt .u64 ((l.map u).getD 6 J) && (decide (7 < (l.map u).length) && (AV.isInt .u64 ((l.map u).getD 7 J) && (decide (8 < (l.map u).length) && (AV.isInt .u64 ((l.map u).getD 8 J) && (decide (9 < (l.map u).length) && (AV.isInt .u64 ((l.map u).getD 9 J) && (decide (10 < (l.map u).length) && (AV.isInt .u64 ((l.map u).getD 10 J) && (decide (11 < (l.map u).length) && (AV.isInt .u64 ((l.map u).getD 11 J) && true)))))))))))))))))))))))
def tu16 (l : List AV) : List AV := [u (l.getD 0 J).toInt, u (l.getD 1 J).toInt, u (l.getD 2 J).toInt, u (l.getD 3 J).toInt, u (l.getD 4 J).toInt, u (l.getD 5 J).toInt, u (l.getD 6 J).toInt, u (l.getD 7 J).toInt, u (l.getD 8 J).toInt, u (l.getD 9 J).toInt, u (l.getD 10 J).toInt, u (l.getD 11 J).toInt, u (l.getD 12 J).toInt, u (l.getD 13 J).toInt, u (l.getD 14 J).toInt, u (l.getD 15 J).toInt]
abbrev ld16 (l : List Int) : List AV := tu16 (l.map u)
def dm16 (l : List Int) : Bool := decide (0 < (l.map u).length) && (AV.isInt .u64 ((l.map u).getD 0 J) && (decide (1 < (l.map u).length) && (AV.isInt .u64 ((l.map u).getD 1 J) && (decide (2 < (l.map u).length) && (AV.isInt .u64 ((l.map u).getD 2 J) && (decide (3 < (l.map u).length) && (AV.isInt .u64 ((l.map u).getD 3 J) && (decide (4 < (l.map u).length) && (AV.isInt .u64 ((l.map u).getD 4 J) && (decide (5 < (l.map u).length) && (AV.isInt .u64 ((l.map u).getD 5 J) && (decide (6 < (l.map u).length) && (AV.isInt .u64 ((l.map u).getD 6 J) && (decide (7 < (l.map u).length) && (AV.isInt .u64 ((l.map u).getD 7 J) && (decide (8 < (l.map u).length) && (AV.isInt .u64 ((l.map u).getD 8 J) && (decide (9 < (l.map u).length) && (AV.isInt .u64 ((l.map u).getD 9 J) && (decide (10 < (l.map u).length) && (AV.isInt .u64 ((l.map u).getD 10 J) && (decide (11 < (l.map u).length) && (AV.isInt .u64 ((l.map u).getD 11 J) && (decide (12 < (l.map u).length) && (AV.isInt .u64 ((l.map u).getD 12 J) && (decide (13 < (l.map u).length) && (AV.isInt .u64 ((l.map u).getD 13 J) && (decide (14 < (l.map u).length) && (AV.isInt .u64 ((l.map u).getD 14 J) && (decide (15 < (l.map u).length) && (AV.isInt .u64 ((l.map u).getD 15 J) && true)))))))))))))))))))))))))))))))
def tu17 (l : List AV) : List AV := [u (l.getD 0 J).toInt, u (l.getD 1 J).toInt, u (l.getD 2 J).toInt, u (l.getD 3 J).toInt, u (l.getD 4 J).toInt, u (l.getD 5 J).toInt, u (l.getD 6 J).toInt, u (l.getD 7 J).toInt, u (l.getD 8 J).toInt, u (l.getD 9 J).toInt, u (l.getD 10 J).toInt, u (l.getD 11 J).toInt, u (l.getD 12 J).toInt, u (l.getD 13 J).toInt, u (l.getD 14 J).toInt, u (l.getD 15 J).toInt, u (l.getD 16 J).toInt]
abbrev ld17 (l : List Int) : List AV := tu17 (l.map u)
def dm17 (l : List Int) : Bool := decide (0 < (l.map u).length) && (AV.isInt .u64 ((l.map u).getD 0 J) && (decide (1 < (l.map u).length) && (AV.isInt .u64 ((l.map u).getD 1 J) && (decide (2 < (l.map u).length) && (AV.isInt .u64 ((l.map u).getD 2 J) && (decide (3 < (l.map u).length) && (AV.isInt .u64 ((l.map u).getD 3 J) && (decide (4 < (l.map u).length) && (AV.isInt .u64 ((l.map u).getD 4 J) && (decide (5 < (l.map u).length) && (AV.isInt .u64 ((l.map u).getD 5 J) && (decide (6 < (l.map u).length) && (AV.isInt .u64 ((l.map u).getD 6 J) && (decide (7 < (l.map u).length) && (AV.isInt .u64 ((l.map u).getD 7 J) && (decide (8 < (l.map u).length) && (AV.isInt .u64 ((l.map u).getD 8 J) && (decide (9 < (l.map u).length) && (AV.isInt .u64 ((l.map u).getD 9 J) && (decide (10 < (l.map u).length) && (AV.isInt .u64 ((l.map u).getD 10 J) && (decide (11 < (l.map u).length) && (AV.isInt .u64 ((l.map u).getD 11 J) && (decide (12 < (l.map u).length) && (AV.isInt .u64 ((l.map u).getD 12 J) && (decide (13 < (l.map u).length) && (AV.isInt .u64 ((l.map u).getD 13 J) && (decide (14 < (l.map u).length) && (AV.isInt .u64 ((l.map u).getD 14 J) && (decide (15 < (l.map u).length) && (AV.isInt .u64 ((l.map u).getD 15 J) && (decide (16 < (l.map u).length) && (AV.isInt .u64 ((l.map u).getD 16 J) && true)))))))))))))))))))))))))))))))))
def tu25 (l : List AV) : List AV := [u (l.getD 0 J).toInt, u (l.getD 1 J).toInt, u (l.getD 2 J).toInt, u (l.getD 3 J).toInt, u (l.getD 4 J).toInt, u (l.getD 5 J).toInt, u (l.getD 6 J).toInt, u (l.getD 7 J).toInt, u (l.getD 8 J).toInt, u (l.getD 9 J).toInt, u (l.getD 10 J).toInt, u (l.getD 11 J).toInt, u (l.getD 12 J).toInt, u (l.getD 13 J).toInt, u (l.getD 14 J).toInt, u (l.getD 15 J).toInt, u (l.getD 16 J).toInt, u (l.getD 17 J).toInt, u (l.getD 18 J).toInt, u (l.getD 19 J).toInt, u (l.getD 20 J).toInt, u (l.getD 21 J).toInt, u (l.getD 22 J).toInt, u (l.getD 23 J).toInt, u (l.getD 24 J).toInt]
abbrev ld25 (l : List Int) : List AV := tu25 (l.map u)
def dm25 (l : List Int) : Bool := decide (0 < (l.map u).length) && (AV.isInt .u64 ((l.map u).getD 0 J) && (decide (1 < (l.map u).length) && (AV.isInt .u64 ((l.map u).getD 1 J) && (decide (2 < (l.map u).length) && (AV.isInt .u64 ((l.map u).getD 2 J) && (decide (3 < (l.map u).length) && (AV.isInt .u64 ((l.map u).getD 3 J) && (decide (4 < (l.map u).length) && (AV.isInt .u64 ((l.map u).getD 4 J) && (decide (5 < (l.map u).length) && (AV.isInt .u64 ((l.map u).getD 5 J) && (decide (6 < (l.map u).length) && (AV.isInt .u64 ((l.map u).getD 6 J) && (decide (7 < (l.map u).length) && (AV.isInt .u64 ((l.map u).getD 7 J) && (decide (8 < (l.map u).length) && (AV.isInt .u64 ((l.map u).getD 8 J) && (decide (9 < (l.map u).length) && (AV.isInt .u64 ((l.map u).getD 9 J) && (decide (10 < (l.map u).length) && (AV.isInt .u64 ((l.map u).getD 10 J) && (decide (11 < (l.map u).length) && (AV.isInt .u64 ((l.map u).getD 11 J) && (decide (12 < (l.map u).length) && (AV.isInt .u64 ((l.map u).getD 12 J) && (decide (13 < (l.map u).length) && (AV.isInt .u64 ((l.map u).getD 13 J) && (decide (14 < (l.map u).length) && (AV.isInt .u64 ((l.map u).getD 14 J) && (decide (15 < (l.map u).length) && (AV.isInt .u64 ((l.map u).getD 15 J) && (decide (16 < (l.map u).length) && (AV.isInt .u64 ((l.map u).getD 16 J) && (decide (17 < (l.map u).length) && (AV.isInt .u64 ((l.map u).getD 17 J) && (decide (18 < (l.map u).length) && (AV.isInt .u64 ((l.map u).getD 18 J) && (decide (19 < (l.map u).length) && (AV.isInt .u64 ((l.map u).getD 19 J) && (decide (20 < (l.map u).length) && (AV.isInt .u64 ((l.map u).getD 20 J) && (decide (21 < (l.map u).length) && (AV.isInt .u64 ((l.map u).getD 21 J) && (decide (22 < (l.map u).length) && (AV.isInt .u64 ((l.map u).getD 22 J) && (decide (23 < (l.map u).length) && (AV.isInt .u64 ((l.map u).getD 23 J) && (decide (24 < (l.map u).length) && (AV.isInt .u64 ((l.map u).getD 24 J) && true)))))))))))))))))))))))))))))))))))))))))))))))))
def jn : Nat → List AV → List AV
  | 0, l => l
  | n + 1, l => .junk :: jn n l
def sj : Nat → List Sh → List Sh
  | 0, l => l
  | n + 1, l => .junk :: sj n l
def cod (f : Func) : Code := f.body.getD .skip
noncomputable abbrev P : Program := Go.Proofs.Tryz.prog
theorem fol : P.follows .mixedOrders = true := by kernel_rfl
def shI : Sh := .int .i64
def sh8 : Sh := .int .u8
def sh6 : Sh := .int .u64
def shU : Sh := .agg [.int .u64, .int .u64, .int .u64, .int .u64]
def shB : Sh := .bool
def shS : Sh := .str
def kp (f : FuncId) (l : List (Nat × List Tmp × List Tmp)) (g : FuncId) (b : Nat) : Option (List Tmp × List Tmp) := bif Nat.beq f g then kpl l b else none
where kpl : List (Nat × List Tmp × List Tmp) → Nat → Option (List Tmp × List Tmp)
  | [], _ => none
  | p :: l, b => bif Nat.beq p.1 b then some p.2 else kpl l b
def cn (f : FuncId) (l : List (Nat × List (Tmp × List Int) × List (Tmp × List Int))) (g : FuncId) (b : Nat) : List (Tmp × List Int) × List (Tmp × List Int) := bif Nat.beq f g then cnl l b else ([], [])
where cnl : List (Nat × List (Tmp × List Int) × List (Tmp × List Int)) → Nat → List (Tmp × List Int) × List (Tmp × List Int)
  | [], _ => ([], [])
  | p :: l, b => bif Nat.beq p.1 b then p.2 else cnl l b
def inlOf : List (FuncId × Func × Code) → FuncId → Option (Func × Code)
  | [], _ => none
  | p :: l, g => bif Nat.beq g p.1 then some p.2 else inlOf l g
def InlL : List (FuncId × Func × Code) → Prop
  | [] => True
  | p :: l => (P.funcs[p.1]? = some p.2.1 ∧ p.2.1.body = some p.2.2 ∧ (p.2.1.name == "runtime.NumGoroutine") = false) ∧ InlL l
theorem inlOf_ok : ∀ {l : List (FuncId × Func × Code)}, InlL l → ∀ g fc, inlOf l g = some fc → P.funcs[g]? = some fc.1 ∧ fc.1.body = some fc.2 ∧ (fc.1.name == "runtime.NumGoroutine") = false
  | [], _, g, fc, h => by cases h
  | p :: l, h, g, fc, hg => by
    unfold inlOf at hg
    cases hb : Nat.beq g p.1 with
    | true =>
      rw [hb] at hg
      simp only [cond_true, Option.some.injEq] at hg
      subst hg
      rw [Nat.eq_of_beq_eq_true hb]
      exact h.1
    | false => rw [hb] at hg; exact inlOf_ok h.2 g fc hg
def hk (f : FuncId) (l : List (Nat × BSpec)) (g : FuncId) (b : Nat) : Option BSpec := bif Nat.beq f g then hkl l b else none
where hkl : List (Nat × BSpec) → Nat → Option BSpec
  | [], _ => none
  | p :: l, b => bif Nat.beq p.1 b then some p.2 else hkl l b
def HkL (f : FuncId) : List (Nat × BSpec) → Prop
  | [] => True
  | p :: l => BlockOK P f p.1 p.2 ∧ HkL f l
theorem hk_ok {f : FuncId} : ∀ {l : List (Nat × BSpec)}, HkL f l → ∀ g b S, hk f l g b = some S → BlockOK P g b S := by
  intro l h g b S hs
  unfold hk at hs
  cases hb : Nat.beq f g with
  | false => rw [hb] at hs; cases hs
  | true =>
    rw [hb] at hs
    simp only [cond_true] at hs
    have := Nat.eq_of_beq_eq_true hb
    subst this
    have go : ∀ l, HkL f l → hk.hkl l b = some S → BlockOK P f b S := by
      intro l
      induction l with
      | nil => intro _ hs; cases hs
      | cons p l ih =>
        intro h hs
        unfold hk.hkl at hs
        cases hb2 : Nat.beq p.1 b with
        | true =>
          rw [hb2] at hs
          simp only [cond_true, Option.some.injEq] at hs
          rw [← Nat.eq_of_beq_eq_true hb2, ← hs]
          exact h.1
        | false => rw [hb2] at hs; exact ih h.2 hs
    exact go l h hs
def blkIn (id : Nat) : Code → Option Code
  | .seq x y => match blkIn id x with
    | some c => some c
    | none => blkIn id y
  | .cond _ x y => match blkIn id x with
    | some c => some c
    | none => blkIn id y
  | .block i c => bif Nat.beq i id then some c else blkIn id c
  | .loop c => blkIn id c
  | .scope c => blkIn id c
  | .rangeFunc _ _ x y => match blkIn id x with
    | some c => some c
    | none => blkIn id y
  | _ => none
def blk (f : Func) (id : Nat) : Code := (blkIn id (cod f)).getD .skip
def rnd (f : Func) (id : Nat) : Code := match blk f id with
  | .loop c => c
  | c => c
abbrev fin (e : AEnd) (os : List AObj) : RE := some (e, os)
abbrev finB (e : AExit) (a : AAct) (os : List AObj) : RBE := some (e, a, os)
theorem qR (B : ASpec) (args : List AV) (os : List AObj) : runR B args os = B args os _ fin := rfl
theorem qB (E : Env) (fuel : AAct → List AObj → Nat) (id : Nat) (c : Code) (a : AAct) (os : List AObj) : runB (blockRun E fuel id) c a os = exec E (fuel a os) id (.block id c) a os _ finB := rfl
def bK (E : Env) (n id : Nat) {X : Type} (k : AExit → AAct → List AObj → Option X) : AExit → AAct → List AObj → Option X := fun e a os => match e with
  | .normal => tidyC (E.conc a.fn id).2 ((E.keep a.fn id).map (·.2)) n a os fun a os => k .normal a os
  | .exit id' => bif Nat.beq id' id then tidyC (E.conc a.fn id).2 ((E.keep a.fn id).map (·.2)) n a os fun a os => k .normal a os else k (.exit id') a os
  | e => k e a os
theorem exec_block {E : Env} {n b id : Nat} {c : Code} {a : AAct} {os : List AObj} {X : Type} {k : AExit → AAct → List AObj → Option X} (h : E.hook a.fn id = none) :
    exec E (n + 1) b (.block id c) a os X k = exec E n id c a os X (bK E n id k) := by
  simp only [exec, h]; rfl
def roundL (E : Env) (n blk : Nat) (c : Code) (L : AAct → List AObj → ∀ X : Type, (AExit → AAct → List AObj → Option X) → Option X) (a : AAct) (os : List AObj) (X : Type) (k : AExit → AAct → List AObj → Option X) : Option X :=
  tidyC (E.conc a.fn blk).1 ((E.keep a.fn blk).map (·.1)) n a os fun a os => exec E n blk c a (viewInts (E.ints a.fn blk) os) X fun e a os => match e with
    | .normal => tidy ((E.keep a.fn blk).map (·.1)) n a os fun a os => L a os X k
    | e => k e a os
theorem exec_loop (E : Env) (n blk : Nat) (c : Code) (a : AAct) (os : List AObj) (X : Type) (k : AExit → AAct → List AObj → Option X) :
    exec E (n + 1) blk (.loop c) a os X k = roundL E n blk c (fun a os X k => exec E n blk (.loop c) a os X k) a os X k := by
  simp only [exec, roundL]
  rfl
def iz (f : FuncId) (l : List (Nat × List Nat)) (g : FuncId) (b : Nat) : List Nat := bif Nat.beq f g then izl l b else []
where izl : List (Nat × List Nat) → Nat → List Nat
  | [], _ => []
  | p :: l, b => bif Nat.beq p.1 b then p.2 else izl l b
noncomputable def En (f : FuncId) (kps : List (Nat × List Tmp × List Tmp)) (cns : List (Nat × List (Tmp × List Int) × List (Tmp × List Int))) (ins : List (FuncId × Func × Code)) (hks : List (Nat × BSpec)) (ms : List Nat) (t : Tbl) (zs : List (Nat × List Nat) := []) : Env :=
  { P := P, spec := t.get, mode := fun g => bif hasN ms g then .ref else .val, keep := kp f kps, inl := inlOf ins, conc := cn f cns, hook := hk f hks, ints := iz f zs }
theorem tnil : Tbl.OK P [] := trivial
theorem tcons {f : FuncId} {S : ASpec} {t : Tbl} (h : SpecOK P f S) (ht : t.OK P) : Tbl.OK P ((f, S) :: t) := And.intro h ht
theorem hnil {f : FuncId} : HkL f [] := trivial
theorem hcons {f : FuncId} {b : Nat} {S : BSpec} {l : List (Nat × BSpec)} (h : BlockOK P f b S) (hl : HkL f l) : HkL f ((b, S) :: l) := And.intro h hl
theorem okF {f : FuncId} {kps : List (Nat × List Tmp × List Tmp)} {cns : List (Nat × List (Tmp × List Int) × List (Tmp × List Int))} {ins : List (FuncId × Func × Code)} {hks : List (Nat × BSpec)} {ms : List Nat} {t : Tbl} {zs : List (Nat × List Nat)} (n : Nat) {fn : Func} {c : Code}
    (ht : t.OK P) (hi : InlL ins) (hh : HkL f hks) (hf : P.funcs[f]? = some fn) (hb : fn.body = some c) (hnm : (fn.name == "runtime.NumGoroutine") = false) (ts : List Alt) :
    SpecOK P f (shaped ts (runR (body (En f kps cns ins hks ms t zs) n f fn c))) :=
  SpecOK.forced (body_ok (E := En f kps cns ins hks ms t zs) (.of (hk_ok hh)) (fun g => Tbl.get_ok ht g) (fun g fc h => inlOf_ok hi g fc h) fol n hf hb hnm) ts
theorem okBl {f id : Nat} {kps : List (Nat × List Tmp × List Tmp)} {cns : List (Nat × List (Tmp × List Int) × List (Tmp × List Int))} {ins : List (FuncId × Func × Code)} {hks : List (Nat × BSpec)} {ms : List Nat} {t : Tbl} {zs : List (Nat × List Nat)} (fuel : AAct → List AObj → Nat)
    (ht : t.OK P) (hi : InlL ins) (hh : HkL f hks) (ts : List BAlt) (cs : List (Tmp × List Int)) (ks : Option (List Tmp)) :
    BlockOK P f id (bShaped ts cs ks (runB (blockRun (En f kps cns ins hks ms t zs) fuel id))) :=
  BlockOK.forced (E := En f kps cns ins hks ms t zs) (.of (hk_ok hh)) (fun g => Tbl.get_ok ht g) (fun g fc h => inlOf_ok hi g fc h) fol fuel f id ts cs ks
noncomputable def En2 (f : FuncId) (kps : List (Nat × List Tmp × List Tmp)) (hks : List (Nat × BSpec)) (zs : List (Nat × List Nat)) (g : FuncId) (kps' : List (Nat × List Tmp × List Tmp)) (hks' : List (Nat × BSpec)) (zs' : List (Nat × List Nat)) (ins : List (FuncId × Func × Code)) (t : Tbl) : Env :=
  { P := P, spec := t.get, mode := fun _ => .val, keep := fun h b => bif Nat.beq f h then kp f kps h b else kp g kps' h b, inl := inlOf ins, hook := fun h b => bif Nat.beq f h then hk f hks h b else hk g hks' h b, ints := fun h b => bif Nat.beq f h then iz f zs h b else iz g zs' h b }
theorem hk2_ok {f g : FuncId} {l l' : List (Nat × BSpec)} (hh : HkL f l) (hh' : HkL g l') : ∀ h b S, (bif Nat.beq f h then hk f l h b else hk g l' h b) = some S → BlockOK P h b S := by
  intro h b S hs
  cases hb : Nat.beq f h with
  | true => rw [hb] at hs; exact hk_ok hh h b S hs
  | false => rw [hb] at hs; exact hk_ok hh' h b S hs
theorem okF2 {f : FuncId} {kps : List (Nat × List Tmp × List Tmp)} {hks : List (Nat × BSpec)} {zs : List (Nat × List Nat)} {g : FuncId} {kps' : List (Nat × List Tmp × List Tmp)} {hks' : List (Nat × BSpec)} {zs' : List (Nat × List Nat)} {ins : List (FuncId × Func × Code)} {t : Tbl} (n : Nat) {fn : Func} {c : Code}
    (ht : t.OK P) (hi : InlL ins) (hh : HkL f hks) (hh' : HkL g hks') (hf : P.funcs[f]? = some fn) (hb : fn.body = some c) (hnm : (fn.name == "runtime.NumGoroutine") = false) (ts : List Alt) :
    SpecOK P f (shaped ts (runR (body (En2 f kps hks zs g kps' hks' zs' ins t) n f fn c))) :=
  SpecOK.forced (body_ok (E := En2 f kps hks zs g kps' hks' zs' ins t) (.of (hk2_ok hh hh')) (fun g => Tbl.get_ok ht g) (fun g fc h => inlOf_ok hi g fc h) fol n hf hb hnm) ts
theorem okBl2 {f id : Nat} {kps : List (Nat × List Tmp × List Tmp)} {hks : List (Nat × BSpec)} {zs : List (Nat × List Nat)} {g : FuncId} {kps' : List (Nat × List Tmp × List Tmp)} {hks' : List (Nat × BSpec)} {zs' : List (Nat × List Nat)} {ins : List (FuncId × Func × Code)} {t : Tbl} (fuel : AAct → List AObj → Nat)
    (ht : t.OK P) (hi : InlL ins) (hh : HkL f hks) (hh' : HkL g hks') (ts : List BAlt) (cs : List (Tmp × List Int)) (ks : Option (List Tmp)) :
    BlockOK P f id (bShaped ts cs ks (runB (blockRun (En2 f kps hks zs g kps' hks' zs' ins t) fuel id))) :=
  BlockOK.forced (E := En2 f kps hks zs g kps' hks' zs' ins t) (.of (hk2_ok hh hh')) (fun g => Tbl.get_ok ht g) (fun g fc h => inlOf_ok hi g fc h) fol fuel f id ts cs ks
end Go.Proofs.Vm
end
section
namespace Go.Proofs.Vm
open Go Go.Abs
theorem okValue {f : FuncId} {r : RF} (ts : List Alt) (h : ∀ args os e os', r args os = some (e, os') → os' = os ∧ ∃ x, e = .ret x ∧ ∀ (φ : Emb) (L : Nat → Prop) (w : World) (vals : Array Value), VRs φ L w args vals.toList → ∃ v, (callFunc f vals).run P w = .ok (.value v) w ∧ VR φ L w x v) :
    SpecOK P f (shaped ts r) := by
  refine SpecOK.of_value fun args os => ?_
  rcases endSpec_cases (r args os) ts with ⟨e, os', h1, h2⟩ | h2
  · obtain ⟨rfl, x, rfl, h3⟩ := h args os e os' h1
    exact .inr ⟨x, h2, h3⟩
  · exact .inl h2
def r89 : RF := fun args os => match args with
  | [.v (.int .u64 x), .v (.int .u64 y), .v (.int .u64 c)] => bif ile 0 x && (ile 0 y && (ile 0 c && ile c 1)) then some (.ret (.tuple [u ((x + y + c) % 18446744073709551616), u ((x + y + c) / 18446744073709551616)]), os) else none
  | _ => none
def r172 : RF := fun args os => match args with
  | [.v (.int .u64 x), .v (.int .u64 y), .v (.int .u64 c)] => bif ile 0 x && (ile 0 y && (ile y 18446744073709551615 && (ile 0 c && ile c 1))) then some (.ret (.tuple [u ((x + 18446744073709551616 - y - c) % 18446744073709551616), u (bif ilt x (y + c) then 1 else 0)]), os) else none
  | _ => none
def A89 : List Alt := [⟨false, .tup [sh6, sh6], []⟩]
def A172 : List Alt := [⟨false, .tup [sh6, sh6], []⟩]
theorem vals3 {φ : Emb} {L : Nat → Prop} {w : World} {x y z : Value} {vals : Array Value} (h : VRs φ L w [.v x, .v y, .v z] vals.toList) : vals = #[x, y, z] := by
  simp only [VRs, VR] at h
  obtain ⟨_, _, e, rfl, _, _, rfl, rfl, _, _, rfl, rfl, rfl⟩ := h
  exact Array.ext' e
theorem ok89 : SpecOK P 89 (shaped A89 r89) := okValue _ fun args os e os' h => by
  unfold r89 at h
  split at h
  · rename_i x y c
    cases hb : ile 0 x && (ile 0 y && (ile 0 c && ile c 1)) with
    | false => rw [hb] at h; cases h
    | true =>
      rw [hb] at h
      simp only [cond_true, Option.some.injEq, Prod.mk.injEq] at h
      obtain ⟨rfl, rfl⟩ := h
      simp only [ile_eq, Bool.and_eq_true, decide_eq_true_eq] at hb
      obtain ⟨h1, h2, h3, h4⟩ := hb
      refine ⟨rfl, _, rfl, fun φ L w vals hv => ?_⟩
      rw [vals3 hv]
      refine ⟨.tuple #[.int .u64 ((x + y + c) % 18446744073709551616), .int .u64 ((x + y + c) / 18446744073709551616)], ?_, ?_⟩
      · rw [run_callFunc_extern (e := add64Entry) Tryz.func89 (by kernel_rfl) (by kernel_rfl) (by kernel_rfl) (by kernel_rfl), run_add64 x y c h1 h2 h3 h4]; rfl
      · simp only [VR, VRs, u]; exact ⟨_, rfl, _, _, rfl, rfl, _, _, rfl, rfl, rfl⟩
  · cases h
def sub64Entry : Array Value → Sem Value := fun args => do
  let (x, y, b) ← Extern.MathBitsCarry.three "Sub64" args
  pure (Extern.MathBitsCarry.pair ((x + Extern.MathBitsCarry.m64 - y - b) % Extern.MathBitsCarry.m64) (if x < y + b then 1 else 0))
theorem run_sub64 (x y c : Int) (hx : 0 ≤ x) (hy : 0 ≤ y) (hy2 : y ≤ 18446744073709551615) (hc0 : 0 ≤ c) (hc : c ≤ 1) (w : World) :
    (sub64Entry #[.int .u64 x, .int .u64 y, .int .u64 c]).run P w =
      .ok (.tuple #[.int .u64 ((x + 18446744073709551616 - y - c) % 18446744073709551616), .int .u64 (bif ilt x (y + c) then 1 else 0)]) w := by
  have key : ∀ k : Nat, k ≤ 1 → (sub64Entry #[.int .u64 x, .int .u64 y, .int .u64 (k : Int)]).run P w =
      .ok (Extern.MathBitsCarry.pair ((x.toNat + Extern.MathBitsCarry.m64 - y.toNat - k) % Extern.MathBitsCarry.m64) (if x.toNat < y.toNat + k then 1 else 0)) w := by
    intro k hk
    have : k = 0 ∨ k = 1 := by omega
    rcases this with rfl | rfl <;> rfl
  obtain ⟨k, rfl⟩ := Int.eq_ofNat_of_zero_le hc0
  rw [key k (by omega)]
  obtain ⟨X, rfl⟩ := Int.eq_ofNat_of_zero_le hx
  obtain ⟨Y, rfl⟩ := Int.eq_ofNat_of_zero_le hy
  have e2 : ilt (X : Int) ((Y : Int) + k) = decide (X < Y + k) := by rw [ilt_eq]; congr 1; simp only [eq_iff_iff]; omega
  have e3 : (((X + Extern.MathBitsCarry.m64 - Y - k : Nat) : Int)) = (X : Int) + 18446744073709551616 - Y - k := by unfold Extern.MathBitsCarry.m64; omega
  rw [e2]
  simp only [Extern.MathBitsCarry.pair, Int.toNat_natCast]
  have e4 : Int.ofNat ((X + Extern.MathBitsCarry.m64 - Y - k) % Extern.MathBitsCarry.m64) = ((X : Int) + 18446744073709551616 - Y - k) % 18446744073709551616 := by
    rw [← e3]; rfl
  rw [e4]
  by_cases h : X < Y + k <;> simp [h]
theorem ok172 : SpecOK P 172 (shaped A172 r172) := okValue _ fun args os e os' h => by
  unfold r172 at h
  split at h
  · rename_i x y c
    cases hb : ile 0 x && (ile 0 y && (ile y 18446744073709551615 && (ile 0 c && ile c 1))) with
    | false => rw [hb] at h; cases h
    | true =>
      rw [hb] at h
      simp only [cond_true, Option.some.injEq, Prod.mk.injEq] at h
      obtain ⟨rfl, rfl⟩ := h
      simp only [ile_eq, Bool.and_eq_true, decide_eq_true_eq] at hb
      obtain ⟨h1, h2, h5, h3, h4⟩ := hb
      refine ⟨rfl, _, rfl, fun φ L w vals hv => ?_⟩
      rw [vals3 hv]
      refine ⟨.tuple #[.int .u64 ((x + 18446744073709551616 - y - c) % 18446744073709551616), .int .u64 (bif ilt x (y + c) then 1 else 0)], ?_, ?_⟩
      · rw [run_callFunc_extern (e := sub64Entry) Tryz.func172 (by kernel_rfl) (by kernel_rfl) (by kernel_rfl) (by kernel_rfl), run_sub64 x y c h1 h2 h5 h3 h4]; rfl
      · simp only [VR, VRs, u]; exact ⟨_, rfl, _, _, rfl, rfl, _, _, rfl, rfl, rfl⟩
  · cases h
end Go.Proofs.Vm
end
section
open Go Go.Abs
namespace Go.Proofs.Vm
def blen : Nat → Nat → Nat
  | 0, _ => 0
  | n + 1, x => bif Nat.beq x 0 then 0 else blen n (x / 2) + 1
def len8 : ByteArray := ⟨⟨(List.range 256).map fun n => UInt8.ofNat (blen 9 n)⟩⟩
set_option maxRecDepth 100000
set_option maxHeartbeats 0
noncomputable def E83 : Env := En 83 [] [] [] [] [] []
def a83 : Alt := ⟨false, shU, []⟩
def A83 : List Alt := [a83]
theorem T83 (n : Int) (X : Type) (k : AEnd → List AObj → Option X) :
    body (E83) 60 83 Tryz.f83 (cod Tryz.f83) [u n] [] X k =
    k (.ret (U n 0 0 0)) [] := by kernel_rfl
noncomputable def r83 : RF := runR (body (E83) 60 83 Tryz.f83 (cod Tryz.f83))
theorem q83 (args : List AV) (os : List AObj) : r83 args os = body (E83) 60 83 Tryz.f83 (cod Tryz.f83) args os _ fin := qR _ _ _
theorem ok83 : SpecOK P 83 (shaped A83 r83) := by
  unfold r83 E83
  refine okF 60 ?_ ?_ ?_ Tryz.func83 ?_ ?_ _
  · exact tnil
  · exact trivial
  · exact hnil
  · kernel_rfl
  · kernel_rfl
noncomputable def E109 (r89 : RF) : Env := En 109 [(0, [2, 3, 4, 6, 8], [2, 4, 6])] [] [] [] [] [(89, shaped A89 r89)]
def a109 : Alt := ⟨false, .tup [shU, shB], []⟩
def A109 : List Alt := [a109]
theorem T109 (r89 : RF) (a0 a1 a2 a3 b0 b1 b2 b3 : Int) (X : Type) (k : AEnd → List AObj → Option X)
    (x1 : RE) (e1 : r89 [u a0, u b0, u 0] [] = x1)
    (x2 : RE) (e2 : r89 [u a1, u b1, u ((rV x1).items.getD 1 J).toInt] [] = x2)
    (x3 : RE) (e3 : r89 [u a2, u b2, u ((rV x2).items.getD 1 J).toInt] [] = x3)
    (x4 : RE) (e4 : r89 [u a3, u b3, u ((rV x3).items.getD 1 J).toInt] [] = x4) :
    body (E109 r89) 60 109 Tryz.f109 (cod Tryz.f109) [U a0 a1 a2 a3, U b0 b1 b2 b3] [] X k =
    bif okAlt { pan := false, s := .tup [sh6, sh6], os := [] } x1 then bif okAlt { pan := false, s := .tup [sh6, sh6], os := [] } x2 then bif okAlt { pan := false, s := .tup [sh6, sh6], os := [] } x3 then bif okAlt { pan := false, s := .tup [sh6, sh6], os := [] } x4 then k (.ret (.tuple [AV.agg [u ((rV x1).items.getD 0 J).toInt, u ((rV x2).items.getD 0 J).toInt, u ((rV x3).items.getD 0 J).toInt, u ((rV x4).items.getD 0 J).toInt], bo (((rV x4).items.getD 1 J).toInt == 1)])) [] else none else none else none else none := by subst e1 e2 e3 e4; kernel_rfl
noncomputable def r109 : RF := runR (body (E109 r89) 60 109 Tryz.f109 (cod Tryz.f109))
theorem q109 (args : List AV) (os : List AObj) : r109 args os = body (E109 r89) 60 109 Tryz.f109 (cod Tryz.f109) args os _ fin := qR _ _ _
theorem ok109 : SpecOK P 109 (shaped A109 r109) := by
  unfold r109 E109
  refine okF 60 ?_ ?_ ?_ Tryz.func109 ?_ ?_ _
  · exact (tcons ok89 tnil)
  · exact trivial
  · exact hnil
  · kernel_rfl
  · kernel_rfl
noncomputable def E119 (r172 : RF) : Env := En 119 [(0, [2, 3, 4, 6, 8], [2, 4, 6])] [] [] [] [] [(172, shaped A172 r172)]
def a119 : Alt := ⟨false, .tup [shU, shB], []⟩
def A119 : List Alt := [a119]
theorem T119 (r172 : RF) (a0 a1 a2 a3 b0 b1 b2 b3 : Int) (X : Type) (k : AEnd → List AObj → Option X)
    (x1 : RE) (e1 : r172 [u a0, u b0, u 0] [] = x1)
    (x2 : RE) (e2 : r172 [u a1, u b1, u ((rV x1).items.getD 1 J).toInt] [] = x2)
    (x3 : RE) (e3 : r172 [u a2, u b2, u ((rV x2).items.getD 1 J).toInt] [] = x3)
    (x4 : RE) (e4 : r172 [u a3, u b3, u ((rV x3).items.getD 1 J).toInt] [] = x4) :
    body (E119 r172) 60 119 Tryz.f119 (cod Tryz.f119) [U a0 a1 a2 a3, U b0 b1 b2 b3] [] X k =
    bif okAlt { pan := false, s := .tup [sh6, sh6], os := [] } x1 then bif okAlt { pan := false, s := .tup [sh6, sh6], os := [] } x2 then bif okAlt { pan := false, s := .tup [sh6, sh6], os := [] } x3 then bif okAlt { pan := false, s := .tup [sh6, sh6], os := [] } x4 then k (.ret (.tuple [AV.agg [u ((rV x1).items.getD 0 J).toInt, u ((rV x2).items.getD 0 J).toInt, u ((rV x3).items.getD 0 J).toInt, u ((rV x4).items.getD 0 J).toInt], bo (((rV x4).items.getD 1 J).toInt == 1)])) [] else none else none else none else none := by subst e1 e2 e3 e4; kernel_rfl
noncomputable def r119 : RF := runR (body (E119 r172) 60 119 Tryz.f119 (cod Tryz.f119))
theorem q119 (args : List AV) (os : List AObj) : r119 args os = body (E119 r172) 60 119 Tryz.f119 (cod Tryz.f119) args os _ fin := qR _ _ _
theorem ok119 : SpecOK P 119 (shaped A119 r119) := by
  unfold r119 E119
  refine okF 60 ?_ ?_ ?_ Tryz.func119 ?_ ?_ _
  · exact (tcons ok172 tnil)
  · exact trivial
  · exact hnil
  · kernel_rfl
  · kernel_rfl
noncomputable def E110 (r119 : RF) : Env := En 110 [] [] [] [] [] [(119, shaped A119 r119)]
def a110 : Alt := ⟨false, shI, []⟩
def A110 : List Alt := [a110]
theorem T110 (r119 : RF) (a0 a1 a2 a3 b0 b1 b2 b3 : Int) (X : Type) (k : AEnd → List AObj → Option X)
    (x1 : RE) (e1 : r119 [U a0 a1 a2 a3, U b0 b1 b2 b3] [] = x1) :
    body (E110 r119) 60 110 Tryz.f110 (cod Tryz.f110) [U a0 a1 a2 a3, U b0 b1 b2 b3] [] X k =
    bif a0 == b0 && (a1 == b1 && (a2 == b2 && (a3 == b3 && true))) then k (.ret (i64 0)) [] else bif okAlt a119 x1 then bif ((rV x1).items.getD 1 J).toBool then k (.ret (i64 (-1))) [] else k (.ret (i64 1)) [] else none := by subst e1; kernel_rfl
noncomputable def r110 : RF := runR (body (E110 r119) 60 110 Tryz.f110 (cod Tryz.f110))
theorem q110 (args : List AV) (os : List AObj) : r110 args os = body (E110 r119) 60 110 Tryz.f110 (cod Tryz.f110) args os _ fin := qR _ _ _
theorem ok110 : SpecOK P 110 (shaped A110 r110) := by
  unfold r110 E110
  refine okF 60 ?_ ?_ ?_ Tryz.func110 ?_ ?_ _
  · exact (tcons ok119 tnil)
  · exact trivial
  · exact hnil
  · kernel_rfl
  · kernel_rfl
noncomputable def E184 : Env := En 184 [] [] [(244, Tryz.f244, cod Tryz.f244), (245, Tryz.f245, cod Tryz.f245)] [] [] []
def a184 : Alt := ⟨false, shU, []⟩
def A184 : List Alt := [a184]
theorem T184 (a0 a1 a2 a3 : Int) (X : Type) (k : AEnd → List AObj → Option X) :
    body (E184) 60 184 Tryz.f184 (cod Tryz.f184) [U a0 a1 a2 a3] [] X k =
    k (.ret (U (IntKind.u64.wrap (↑(BitVec.ofInt IntKind.u64.bits (2 ^ IntKind.u64.bits - 1) ^^^ BitVec.ofInt IntKind.u64.bits a0).toNat : Int)) (IntKind.u64.wrap (↑(BitVec.ofInt IntKind.u64.bits (2 ^ IntKind.u64.bits - 1) ^^^ BitVec.ofInt IntKind.u64.bits a1).toNat : Int)) (IntKind.u64.wrap (↑(BitVec.ofInt IntKind.u64.bits (2 ^ IntKind.u64.bits - 1) ^^^ BitVec.ofInt IntKind.u64.bits a2).toNat : Int)) (IntKind.u64.wrap (↑(BitVec.ofInt IntKind.u64.bits (2 ^ IntKind.u64.bits - 1) ^^^ BitVec.ofInt IntKind.u64.bits a3).toNat : Int)))) [] := by kernel_rfl
noncomputable def r184 : RF := runR (body (E184) 60 184 Tryz.f184 (cod Tryz.f184))
theorem q184 (args : List AV) (os : List AObj) : r184 args os = body (E184) 60 184 Tryz.f184 (cod Tryz.f184) args os _ fin := qR _ _ _
theorem ok184 : SpecOK P 184 (shaped A184 r184) := by
  unfold r184 E184
  refine okF 60 ?_ ?_ ?_ Tryz.func184 ?_ ?_ _
  · exact tnil
  · exact (And.intro (And.intro Tryz.func244 (And.intro (by kernel_rfl) (by kernel_rfl))) (And.intro (And.intro Tryz.func245 (And.intro (by kernel_rfl) (by kernel_rfl))) trivial))
  · exact hnil
  · kernel_rfl
  · kernel_rfl
noncomputable def E185 : Env := En 185 [] [] [(244, Tryz.f244, cod Tryz.f244), (246, Tryz.f246, cod Tryz.f246)] [] [] []
def a185 : Alt := ⟨false, shU, []⟩
def A185 : List Alt := [a185]
theorem T185 (a0 a1 a2 a3 b0 b1 b2 b3 : Int) (X : Type) (k : AEnd → List AObj → Option X) :
    body (E185) 60 185 Tryz.f185 (cod Tryz.f185) [U a0 a1 a2 a3, U b0 b1 b2 b3] [] X k =
    k (.ret (U (IntKind.u64.wrap (↑(BitVec.ofInt IntKind.u64.bits a0 ||| BitVec.ofInt IntKind.u64.bits b0).toNat : Int)) (IntKind.u64.wrap (↑(BitVec.ofInt IntKind.u64.bits a1 ||| BitVec.ofInt IntKind.u64.bits b1).toNat : Int)) (IntKind.u64.wrap (↑(BitVec.ofInt IntKind.u64.bits a2 ||| BitVec.ofInt IntKind.u64.bits b2).toNat : Int)) (IntKind.u64.wrap (↑(BitVec.ofInt IntKind.u64.bits a3 ||| BitVec.ofInt IntKind.u64.bits b3).toNat : Int)))) [] := by kernel_rfl
noncomputable def r185 : RF := runR (body (E185) 60 185 Tryz.f185 (cod Tryz.f185))
theorem q185 (args : List AV) (os : List AObj) : r185 args os = body (E185) 60 185 Tryz.f185 (cod Tryz.f185) args os _ fin := qR _ _ _
theorem ok185 : SpecOK P 185 (shaped A185 r185) := by
  unfold r185 E185
  refine okF 60 ?_ ?_ ?_ Tryz.func185 ?_ ?_ _
  · exact tnil
  · exact (And.intro (And.intro Tryz.func244 (And.intro (by kernel_rfl) (by kernel_rfl))) (And.intro (And.intro Tryz.func246 (And.intro (by kernel_rfl) (by kernel_rfl))) trivial))
  · exact hnil
  · kernel_rfl
  · kernel_rfl
noncomputable def E186 : Env := En 186 [] [] [(244, Tryz.f244, cod Tryz.f244), (247, Tryz.f247, cod Tryz.f247)] [] [] []
def a186 : Alt := ⟨false, shU, []⟩
def A186 : List Alt := [a186]
theorem T186 (a0 a1 a2 a3 b0 b1 b2 b3 : Int) (X : Type) (k : AEnd → List AObj → Option X) :
    body (E186) 60 186 Tryz.f186 (cod Tryz.f186) [U a0 a1 a2 a3, U b0 b1 b2 b3] [] X k =
    k (.ret (U (IntKind.u64.wrap (↑(BitVec.ofInt IntKind.u64.bits a0 &&& BitVec.ofInt IntKind.u64.bits b0).toNat : Int)) (IntKind.u64.wrap (↑(BitVec.ofInt IntKind.u64.bits a1 &&& BitVec.ofInt IntKind.u64.bits b1).toNat : Int)) (IntKind.u64.wrap (↑(BitVec.ofInt IntKind.u64.bits a2 &&& BitVec.ofInt IntKind.u64.bits b2).toNat : Int)) (IntKind.u64.wrap (↑(BitVec.ofInt IntKind.u64.bits a3 &&& BitVec.ofInt IntKind.u64.bits b3).toNat : Int)))) [] := by kernel_rfl
noncomputable def r186 : RF := runR (body (E186) 60 186 Tryz.f186 (cod Tryz.f186))
theorem q186 (args : List AV) (os : List AObj) : r186 args os = body (E186) 60 186 Tryz.f186 (cod Tryz.f186) args os _ fin := qR _ _ _
theorem ok186 : SpecOK P 186 (shaped A186 r186) := by
  unfold r186 E186
  refine okF 60 ?_ ?_ ?_ Tryz.func186 ?_ ?_ _
  · exact tnil
  · exact (And.intro (And.intro Tryz.func244 (And.intro (by kernel_rfl) (by kernel_rfl))) (And.intro (And.intro Tryz.func247 (And.intro (by kernel_rfl) (by kernel_rfl))) trivial))
  · exact hnil
  · kernel_rfl
  · kernel_rfl
noncomputable def E189 : Env := En 189 [] [] [(244, Tryz.f244, cod Tryz.f244), (248, Tryz.f248, cod Tryz.f248)] [] [] []
def a189 : Alt := ⟨false, shU, []⟩
def A189 : List Alt := [a189]
theorem T189 (a0 a1 a2 a3 b0 b1 b2 b3 : Int) (X : Type) (k : AEnd → List AObj → Option X) :
    body (E189) 60 189 Tryz.f189 (cod Tryz.f189) [U a0 a1 a2 a3, U b0 b1 b2 b3] [] X k =
    k (.ret (U (IntKind.u64.wrap (↑(BitVec.ofInt IntKind.u64.bits a0 ^^^ BitVec.ofInt IntKind.u64.bits b0).toNat : Int)) (IntKind.u64.wrap (↑(BitVec.ofInt IntKind.u64.bits a1 ^^^ BitVec.ofInt IntKind.u64.bits b1).toNat : Int)) (IntKind.u64.wrap (↑(BitVec.ofInt IntKind.u64.bits a2 ^^^ BitVec.ofInt IntKind.u64.bits b2).toNat : Int)) (IntKind.u64.wrap (↑(BitVec.ofInt IntKind.u64.bits a3 ^^^ BitVec.ofInt IntKind.u64.bits b3).toNat : Int)))) [] := by kernel_rfl
noncomputable def r189 : RF := runR (body (E189) 60 189 Tryz.f189 (cod Tryz.f189))
theorem q189 (args : List AV) (os : List AObj) : r189 args os = body (E189) 60 189 Tryz.f189 (cod Tryz.f189) args os _ fin := qR _ _ _
theorem ok189 : SpecOK P 189 (shaped A189 r189) := by
  unfold r189 E189
  refine okF 60 ?_ ?_ ?_ Tryz.func189 ?_ ?_ _
  · exact tnil
  · exact (And.intro (And.intro Tryz.func244 (And.intro (by kernel_rfl) (by kernel_rfl))) (And.intro (And.intro Tryz.func248 (And.intro (by kernel_rfl) (by kernel_rfl))) trivial))
  · exact hnil
  · kernel_rfl
  · kernel_rfl
noncomputable def E191_0 : Env := En 191 [(0, [2, 4, 5, 6, 7, 8], [4, 5])] [] [] [] [] []
def a191_0 : BAlt := ⟨.normal, (sj 4 (.ptr 0 0 :: .ptr 1 0 :: sj 44 [])), [.cells [sh6, sh6, sh6, sh6], .cells [sh6, sh6, sh6, sh6]], []⟩
def A191_0 : List BAlt := [a191_0]
noncomputable def h191_0 : RB := runB (blockRun (E191_0) (fun _ _ => 60) 0)
theorem q191_0 (c : Code) (a : AAct) (os : List AObj) : h191_0 c a os = exec (E191_0) ((fun _ _ => 60) a os) 0 (.block 0 c) a os _ finB := qB _ _ _ _ _ _
theorem okb191_0 : BlockOK P 191 0 (bShaped A191_0 [] (some [2, 4, 5, 6, 7, 8]) h191_0) := by
  unfold h191_0 E191_0
  refine okBl _ ?_ ?_ ?_ _ _ _
  · exact tnil
  · exact trivial
  · exact hnil
theorem T191_0q0 (a0 a1 a2 a3 k7 : Int) (X : Type) (k : AExit → AAct → List AObj → Option X) :
    exec (E191_0) 60 0 (.block 0 (blk Tryz.f191 0)) ⟨(J :: J :: .ptr 0 0 :: J :: .ptr 1 0 :: .ptr 2 0 :: i64 0 :: u k7 :: i64 0 :: jn 41 []), [], 191, 0, false⟩ [.cells [u a0, u a1, u a2, u a3], .cells [u 0, u 0, u 0, u 0], .cells [u 0, u 0, u 0, u 0]] X k =
    bif decide (0 ≤ k7) then bif decide (0 ≤ k7) then bif decide (0 ≤ IntKind.u64.wrap (63 - k7)) then bif decide (0 ≤ k7) then bif decide (0 ≤ IntKind.u64.wrap (63 - k7)) then bif decide (0 ≤ k7) then bif decide (0 ≤ IntKind.u64.wrap (63 - k7)) then k AExit.normal { tmps := (jn 4 (AV.ptr 0 0 :: AV.ptr 1 0 :: jn 44 [])), defers := [], fn := 191, foot := 0, round := false } [AObj.cells [u 0, u 0, u 0, u 0], AObj.cells [u (IntKind.u64.wrap (a0 * 2 ^ min k7.toNat IntKind.u64.bits)), u (IntKind.u64.wrap (↑(BitVec.ofInt IntKind.u64.bits (IntKind.u64.wrap (a1 * 2 ^ min k7.toNat IntKind.u64.bits)) ||| BitVec.ofInt IntKind.u64.bits ((a0.fdiv (2 ^ min (Int.toNat 1) IntKind.u64.bits)).fdiv (2 ^ min (IntKind.u64.wrap (63 - k7)).toNat IntKind.u64.bits))).toNat : Int)), u (IntKind.u64.wrap (↑(BitVec.ofInt IntKind.u64.bits (IntKind.u64.wrap (a2 * 2 ^ min k7.toNat IntKind.u64.bits)) ||| BitVec.ofInt IntKind.u64.bits ((a1.fdiv (2 ^ min (Int.toNat 1) IntKind.u64.bits)).fdiv (2 ^ min (IntKind.u64.wrap (63 - k7)).toNat IntKind.u64.bits))).toNat : Int)), u (IntKind.u64.wrap (↑(BitVec.ofInt IntKind.u64.bits (IntKind.u64.wrap (a3 * 2 ^ min k7.toNat IntKind.u64.bits)) ||| BitVec.ofInt IntKind.u64.bits ((a2.fdiv (2 ^ min (Int.toNat 1) IntKind.u64.bits)).fdiv (2 ^ min (IntKind.u64.wrap (63 - k7)).toNat IntKind.u64.bits))).toNat : Int))]] else none else none else none else none else none else none else none := by kernel_rfl
theorem T191_0q1 (a0 a1 a2 a3 k7 : Int) (X : Type) (k : AExit → AAct → List AObj → Option X) :
    exec (E191_0) 60 0 (.block 0 (blk Tryz.f191 0)) ⟨(J :: J :: .ptr 0 0 :: J :: .ptr 1 0 :: .ptr 2 0 :: i64 1 :: u k7 :: i64 1 :: jn 41 []), [], 191, 0, false⟩ [.cells [u a0, u a1, u a2, u a3], .cells [u 0, u 0, u 0, u 0], .cells [u 0, u 0, u 0, u 0]] X k =
    bif decide (0 ≤ k7) then bif decide (0 ≤ k7) then bif decide (0 ≤ IntKind.u64.wrap (63 - k7)) then bif decide (0 ≤ k7) then bif decide (0 ≤ IntKind.u64.wrap (63 - k7)) then k AExit.normal { tmps := (jn 4 (AV.ptr 0 0 :: AV.ptr 1 0 :: jn 44 [])), defers := [], fn := 191, foot := 0, round := false } [AObj.cells [u 0, u 0, u 0, u 0], AObj.cells [u 0, u (IntKind.u64.wrap (a0 * 2 ^ min k7.toNat IntKind.u64.bits)), u (IntKind.u64.wrap (↑(BitVec.ofInt IntKind.u64.bits (IntKind.u64.wrap (a1 * 2 ^ min k7.toNat IntKind.u64.bits)) ||| BitVec.ofInt IntKind.u64.bits ((a0.fdiv (2 ^ min (Int.toNat 1) IntKind.u64.bits)).fdiv (2 ^ min (IntKind.u64.wrap (63 - k7)).toNat IntKind.u64.bits))).toNat : Int)), u (IntKind.u64.wrap (↑(BitVec.ofInt IntKind.u64.bits (IntKind.u64.wrap (a2 * 2 ^ min k7.toNat IntKind.u64.bits)) ||| BitVec.ofInt IntKind.u64.bits ((a1.fdiv (2 ^ min (Int.toNat 1) IntKind.u64.bits)).fdiv (2 ^ min (IntKind.u64.wrap (63 - k7)).toNat IntKind.u64.bits))).toNat : Int))]] else none else none else none else none else none := by kernel_rfl
theorem T191_0q2 (a0 a1 a2 a3 k7 : Int) (X : Type) (k : AExit → AAct → List AObj → Option X) :
    exec (E191_0) 60 0 (.block 0 (blk Tryz.f191 0)) ⟨(J :: J :: .ptr 0 0 :: J :: .ptr 1 0 :: .ptr 2 0 :: i64 2 :: u k7 :: i64 2 :: jn 41 []), [], 191, 0, false⟩ [.cells [u a0, u a1, u a2, u a3], .cells [u 0, u 0, u 0, u 0], .cells [u 0, u 0, u 0, u 0]] X k =
    bif decide (0 ≤ k7) then bif decide (0 ≤ k7) then bif decide (0 ≤ IntKind.u64.wrap (63 - k7)) then k AExit.normal { tmps := (jn 4 (AV.ptr 0 0 :: AV.ptr 1 0 :: jn 44 [])), defers := [], fn := 191, foot := 0, round := false } [AObj.cells [u 0, u 0, u 0, u 0], AObj.cells [u 0, u 0, u (IntKind.u64.wrap (a0 * 2 ^ min k7.toNat IntKind.u64.bits)), u (IntKind.u64.wrap (↑(BitVec.ofInt IntKind.u64.bits (IntKind.u64.wrap (a1 * 2 ^ min k7.toNat IntKind.u64.bits)) ||| BitVec.ofInt IntKind.u64.bits ((a0.fdiv (2 ^ min (Int.toNat 1) IntKind.u64.bits)).fdiv (2 ^ min (IntKind.u64.wrap (63 - k7)).toNat IntKind.u64.bits))).toNat : Int))]] else none else none else none := by kernel_rfl
theorem T191_0q3 (a0 a1 a2 a3 k7 : Int) (X : Type) (k : AExit → AAct → List AObj → Option X) :
    exec (E191_0) 60 0 (.block 0 (blk Tryz.f191 0)) ⟨(J :: J :: .ptr 0 0 :: J :: .ptr 1 0 :: .ptr 2 0 :: i64 3 :: u k7 :: i64 3 :: jn 41 []), [], 191, 0, false⟩ [.cells [u a0, u a1, u a2, u a3], .cells [u 0, u 0, u 0, u 0], .cells [u 0, u 0, u 0, u 0]] X k =
    bif decide (0 ≤ k7) then k AExit.normal { tmps := (jn 4 (AV.ptr 0 0 :: AV.ptr 1 0 :: jn 44 [])), defers := [], fn := 191, foot := 0, round := false } [AObj.cells [u 0, u 0, u 0, u 0], AObj.cells [u 0, u 0, u 0, u (IntKind.u64.wrap (a0 * 2 ^ min k7.toNat IntKind.u64.bits))]] else none := by kernel_rfl
noncomputable def E191 (h191_0 : RB) : Env := En 191 [] [] [] [(0, bShaped A191_0 [] (some [2, 4, 5, 6, 7, 8]) h191_0)] [] []
def a191 : Alt := ⟨false, shU, []⟩
def A191 : List Alt := [a191]
theorem T191 (h191_0 : RB) (a0 a1 a2 a3 n : Int) (X : Type) (k : AEnd → List AObj → Option X)
    (x1 : RBE) (e1 : h191_0 (blk Tryz.f191 0) { tmps := (J :: J :: AV.ptr 0 0 :: J :: AV.ptr 1 0 :: AV.ptr 2 0 :: i64 (IntKind.i64.wrap (IntKind.u64.wrap (n.tdiv 64))) :: u (n.tmod 64) :: i64 (IntKind.i64.wrap (IntKind.u64.wrap (n.tdiv 64))) :: jn 41 []), defers := [], fn := 191, foot := 0, round := false } [AObj.cells [u a0, u a1, u a2, u a3], AObj.cells [u 0, u 0, u 0, u 0], AObj.cells [u 0, u 0, u 0, u 0]] = x1) :
    body (E191 h191_0) 60 191 Tryz.f191 (cod Tryz.f191) [U a0 a1 a2 a3, u n] [] X k =
    bif ile 256 n then k (.ret (U 0 0 0 0)) [] else bif okB a191_0 191 0 false x1 then k (.ret (AV.agg (tu4 ((bOs x1).getD 1 AObj.dead).cellsOf))) [] else none := by subst e1; kernel_rfl
noncomputable def r191 : RF := runR (body (E191 h191_0) 60 191 Tryz.f191 (cod Tryz.f191))
theorem q191 (args : List AV) (os : List AObj) : r191 args os = body (E191 h191_0) 60 191 Tryz.f191 (cod Tryz.f191) args os _ fin := qR _ _ _
theorem ok191 : SpecOK P 191 (shaped A191 r191) := by
  unfold r191 E191
  refine okF 60 ?_ ?_ ?_ Tryz.func191 ?_ ?_ _
  · exact tnil
  · exact trivial
  · exact (hcons okb191_0 hnil)
  · kernel_rfl
  · kernel_rfl
noncomputable def E183_0 : Env := En 183 [(0, [2, 4, 5, 6, 7, 18, 19], [4, 5])] [] [] [] [] []
def a183_0 : BAlt := ⟨.normal, (sj 4 (.ptr 0 0 :: .ptr 1 0 :: sj 47 [])), [.cells [sh6, sh6, sh6, sh6], .cells [sh6, sh6, sh6, sh6]], []⟩
def A183_0 : List BAlt := [a183_0]
noncomputable def h183_0 : RB := runB (blockRun (E183_0) (fun _ _ => 60) 0)
theorem q183_0 (c : Code) (a : AAct) (os : List AObj) : h183_0 c a os = exec (E183_0) ((fun _ _ => 60) a os) 0 (.block 0 c) a os _ finB := qB _ _ _ _ _ _
theorem okb183_0 : BlockOK P 183 0 (bShaped A183_0 [] (some [2, 4, 5, 6, 7, 18, 19]) h183_0) := by
  unfold h183_0 E183_0
  refine okBl _ ?_ ?_ ?_ _ _ _
  · exact tnil
  · exact trivial
  · exact hnil
theorem T183_0q0 (a0 a1 a2 a3 k7 : Int) (X : Type) (k : AExit → AAct → List AObj → Option X) :
    exec (E183_0) 60 0 (.block 0 (blk Tryz.f183 0)) ⟨(J :: J :: .ptr 0 0 :: J :: .ptr 1 0 :: .ptr 2 0 :: i64 0 :: u k7 :: jn 10 (i64 4 :: i64 0 :: jn 33 [])), [], 183, 0, false⟩ [.cells [u a0, u a1, u a2, u a3], .cells [u 0, u 0, u 0, u 0], .cells [u 0, u 0, u 0, u 0]] X k =
    bif decide (0 ≤ k7) then bif decide (0 ≤ IntKind.u64.wrap (63 - k7)) then bif decide (0 ≤ k7) then bif decide (0 ≤ IntKind.u64.wrap (63 - k7)) then bif decide (0 ≤ k7) then bif decide (0 ≤ IntKind.u64.wrap (63 - k7)) then bif decide (0 ≤ k7) then k AExit.normal { tmps := (jn 4 (AV.ptr 0 0 :: AV.ptr 1 0 :: jn 47 [])), defers := [], fn := 183, foot := 0, round := false } [AObj.cells [u 0, u 0, u 0, u 0], AObj.cells [u (IntKind.u64.wrap (↑(BitVec.ofInt IntKind.u64.bits (a0.fdiv (2 ^ min k7.toNat IntKind.u64.bits)) ||| BitVec.ofInt IntKind.u64.bits (IntKind.u64.wrap (IntKind.u64.wrap (a1 * 2 ^ min (Int.toNat 1) IntKind.u64.bits) * 2 ^ min (IntKind.u64.wrap (63 - k7)).toNat IntKind.u64.bits))).toNat : Int)), u (IntKind.u64.wrap (↑(BitVec.ofInt IntKind.u64.bits (a1.fdiv (2 ^ min k7.toNat IntKind.u64.bits)) ||| BitVec.ofInt IntKind.u64.bits (IntKind.u64.wrap (IntKind.u64.wrap (a2 * 2 ^ min (Int.toNat 1) IntKind.u64.bits) * 2 ^ min (IntKind.u64.wrap (63 - k7)).toNat IntKind.u64.bits))).toNat : Int)), u (IntKind.u64.wrap (↑(BitVec.ofInt IntKind.u64.bits (a2.fdiv (2 ^ min k7.toNat IntKind.u64.bits)) ||| BitVec.ofInt IntKind.u64.bits (IntKind.u64.wrap (IntKind.u64.wrap (a3 * 2 ^ min (Int.toNat 1) IntKind.u64.bits) * 2 ^ min (IntKind.u64.wrap (63 - k7)).toNat IntKind.u64.bits))).toNat : Int)), u (a3.fdiv (2 ^ min k7.toNat IntKind.u64.bits))]] else none else none else none else none else none else none else none := by kernel_rfl
theorem T183_0q1 (a0 a1 a2 a3 k7 : Int) (X : Type) (k : AExit → AAct → List AObj → Option X) :
    exec (E183_0) 60 0 (.block 0 (blk Tryz.f183 0)) ⟨(J :: J :: .ptr 0 0 :: J :: .ptr 1 0 :: .ptr 2 0 :: i64 1 :: u k7 :: jn 10 (i64 3 :: i64 0 :: jn 33 [])), [], 183, 0, false⟩ [.cells [u a0, u a1, u a2, u a3], .cells [u 0, u 0, u 0, u 0], .cells [u 0, u 0, u 0, u 0]] X k =
    bif decide (0 ≤ k7) then bif decide (0 ≤ IntKind.u64.wrap (63 - k7)) then bif decide (0 ≤ k7) then bif decide (0 ≤ IntKind.u64.wrap (63 - k7)) then bif decide (0 ≤ k7) then k AExit.normal { tmps := (jn 4 (AV.ptr 0 0 :: AV.ptr 1 0 :: jn 47 [])), defers := [], fn := 183, foot := 0, round := false } [AObj.cells [u 0, u 0, u 0, u 0], AObj.cells [u (IntKind.u64.wrap (↑(BitVec.ofInt IntKind.u64.bits (a1.fdiv (2 ^ min k7.toNat IntKind.u64.bits)) ||| BitVec.ofInt IntKind.u64.bits (IntKind.u64.wrap (IntKind.u64.wrap (a2 * 2 ^ min (Int.toNat 1) IntKind.u64.bits) * 2 ^ min (IntKind.u64.wrap (63 - k7)).toNat IntKind.u64.bits))).toNat : Int)), u (IntKind.u64.wrap (↑(BitVec.ofInt IntKind.u64.bits (a2.fdiv (2 ^ min k7.toNat IntKind.u64.bits)) ||| BitVec.ofInt IntKind.u64.bits (IntKind.u64.wrap (IntKind.u64.wrap (a3 * 2 ^ min (Int.toNat 1) IntKind.u64.bits) * 2 ^ min (IntKind.u64.wrap (63 - k7)).toNat IntKind.u64.bits))).toNat : Int)), u (a3.fdiv (2 ^ min k7.toNat IntKind.u64.bits)), u 0]] else none else none else none else none else none := by kernel_rfl
theorem T183_0q2 (a0 a1 a2 a3 k7 : Int) (X : Type) (k : AExit → AAct → List AObj → Option X) :
    exec (E183_0) 60 0 (.block 0 (blk Tryz.f183 0)) ⟨(J :: J :: .ptr 0 0 :: J :: .ptr 1 0 :: .ptr 2 0 :: i64 2 :: u k7 :: jn 10 (i64 2 :: i64 0 :: jn 33 [])), [], 183, 0, false⟩ [.cells [u a0, u a1, u a2, u a3], .cells [u 0, u 0, u 0, u 0], .cells [u 0, u 0, u 0, u 0]] X k =
    bif decide (0 ≤ k7) then bif decide (0 ≤ IntKind.u64.wrap (63 - k7)) then bif decide (0 ≤ k7) then k AExit.normal { tmps := (jn 4 (AV.ptr 0 0 :: AV.ptr 1 0 :: jn 47 [])), defers := [], fn := 183, foot := 0, round := false } [AObj.cells [u 0, u 0, u 0, u 0], AObj.cells [u (IntKind.u64.wrap (↑(BitVec.ofInt IntKind.u64.bits (a2.fdiv (2 ^ min k7.toNat IntKind.u64.bits)) ||| BitVec.ofInt IntKind.u64.bits (IntKind.u64.wrap (IntKind.u64.wrap (a3 * 2 ^ min (Int.toNat 1) IntKind.u64.bits) * 2 ^ min (IntKind.u64.wrap (63 - k7)).toNat IntKind.u64.bits))).toNat : Int)), u (a3.fdiv (2 ^ min k7.toNat IntKind.u64.bits)), u 0, u 0]] else none else none else none := by kernel_rfl
theorem T183_0q3 (a0 a1 a2 a3 k7 : Int) (X : Type) (k : AExit → AAct → List AObj → Option X) :
    exec (E183_0) 60 0 (.block 0 (blk Tryz.f183 0)) ⟨(J :: J :: .ptr 0 0 :: J :: .ptr 1 0 :: .ptr 2 0 :: i64 3 :: u k7 :: jn 10 (i64 1 :: i64 0 :: jn 33 [])), [], 183, 0, false⟩ [.cells [u a0, u a1, u a2, u a3], .cells [u 0, u 0, u 0, u 0], .cells [u 0, u 0, u 0, u 0]] X k =
    bif decide (0 ≤ k7) then k AExit.normal { tmps := (jn 4 (AV.ptr 0 0 :: AV.ptr 1 0 :: jn 47 [])), defers := [], fn := 183, foot := 0, round := false } [AObj.cells [u 0, u 0, u 0, u 0], AObj.cells [u (a3.fdiv (2 ^ min k7.toNat IntKind.u64.bits)), u 0, u 0, u 0]] else none := by kernel_rfl
noncomputable def E183 (h183_0 : RB) : Env := En 183 [] [] [] [(0, bShaped A183_0 [] (some [2, 4, 5, 6, 7, 18, 19]) h183_0)] [] []
def a183 : Alt := ⟨false, shU, []⟩
def A183 : List Alt := [a183]
theorem T183 (h183_0 : RB) (a0 a1 a2 a3 n : Int) (X : Type) (k : AEnd → List AObj → Option X)
    (x1 : RBE) (e1 : h183_0 (blk Tryz.f183 0) { tmps := (J :: J :: AV.ptr 0 0 :: J :: AV.ptr 1 0 :: AV.ptr 2 0 :: i64 (IntKind.i64.wrap (IntKind.u64.wrap (n.tdiv 64))) :: u (n.tmod 64) :: jn 10 (i64 (IntKind.i64.wrap (4 - IntKind.i64.wrap (IntKind.u64.wrap (n.tdiv 64)))) :: i64 0 :: jn 33 [])), defers := [], fn := 183, foot := 0, round := false } [AObj.cells [u a0, u a1, u a2, u a3], AObj.cells [u 0, u 0, u 0, u 0], AObj.cells [u 0, u 0, u 0, u 0]] = x1) :
    body (E183 h183_0) 60 183 Tryz.f183 (cod Tryz.f183) [U a0 a1 a2 a3, u n] [] X k =
    bif ile 256 n then k (.ret (U 0 0 0 0)) [] else bif okB a183_0 183 0 false x1 then k (.ret (AV.agg (tu4 ((bOs x1).getD 1 AObj.dead).cellsOf))) [] else none := by subst e1; kernel_rfl
noncomputable def r183 : RF := runR (body (E183 h183_0) 60 183 Tryz.f183 (cod Tryz.f183))
theorem q183 (args : List AV) (os : List AObj) : r183 args os = body (E183 h183_0) 60 183 Tryz.f183 (cod Tryz.f183) args os _ fin := qR _ _ _
theorem ok183 : SpecOK P 183 (shaped A183 r183) := by
  unfold r183 E183
  refine okF 60 ?_ ?_ ?_ Tryz.func183 ?_ ?_ _
  · exact tnil
  · exact trivial
  · exact (hcons okb183_0 hnil)
  · kernel_rfl
  · kernel_rfl
noncomputable def E151 : Env := En 151 [] [] [] [] [] []
def a151 : Alt := ⟨false, shI, []⟩
def A151 : List Alt := [a151]
theorem T151 (n : Int) (X : Type) (k : AEnd → List AObj → Option X) :
    body (E151) 60 151 Tryz.f151 (cod Tryz.f151) [u n] [] X k =
    bif ile 4294967296 n then bif ile 65536 (n.fdiv (2 ^ min (Int.toNat 32) IntKind.u64.bits)) then bif ile 256 ((n.fdiv (2 ^ min (Int.toNat 32) IntKind.u64.bits)).fdiv (2 ^ min (Int.toNat 16) IntKind.u64.bits)) then bif decide (0 ≤ IntKind.u8.wrap (((n.fdiv (2 ^ min (Int.toNat 32) IntKind.u64.bits)).fdiv (2 ^ min (Int.toNat 16) IntKind.u64.bits)).fdiv (2 ^ min (Int.toNat 8) IntKind.u64.bits))) && decide (IntKind.u8.wrap (((n.fdiv (2 ^ min (Int.toNat 32) IntKind.u64.bits)).fdiv (2 ^ min (Int.toNat 16) IntKind.u64.bits)).fdiv (2 ^ min (Int.toNat 8) IntKind.u64.bits)) < (↑len8.size : Int)) then k (.ret (i64 (IntKind.i64.wrap (IntKind.i64.wrap (IntKind.i64.wrap (32 + 16) + 8) + IntKind.i64.wrap (↑(len8.data.toList.getD (IntKind.u8.wrap (((n.fdiv (2 ^ min (Int.toNat 32) IntKind.u64.bits)).fdiv (2 ^ min (Int.toNat 16) IntKind.u64.bits)).fdiv (2 ^ min (Int.toNat 8) IntKind.u64.bits))).toNat 0).toNat : Int))))) [] else none else bif decide (0 ≤ IntKind.u8.wrap ((n.fdiv (2 ^ min (Int.toNat 32) IntKind.u64.bits)).fdiv (2 ^ min (Int.toNat 16) IntKind.u64.bits))) && decide (IntKind.u8.wrap ((n.fdiv (2 ^ min (Int.toNat 32) IntKind.u64.bits)).fdiv (2 ^ min (Int.toNat 16) IntKind.u64.bits)) < (↑len8.size : Int)) then k (.ret (i64 (IntKind.i64.wrap (IntKind.i64.wrap (32 + 16) + IntKind.i64.wrap (↑(len8.data.toList.getD (IntKind.u8.wrap ((n.fdiv (2 ^ min (Int.toNat 32) IntKind.u64.bits)).fdiv (2 ^ min (Int.toNat 16) IntKind.u64.bits))).toNat 0).toNat : Int))))) [] else none else bif ile 256 (n.fdiv (2 ^ min (Int.toNat 32) IntKind.u64.bits)) then bif decide (0 ≤ IntKind.u8.wrap ((n.fdiv (2 ^ min (Int.toNat 32) IntKind.u64.bits)).fdiv (2 ^ min (Int.toNat 8) IntKind.u64.bits))) && decide (IntKind.u8.wrap ((n.fdiv (2 ^ min (Int.toNat 32) IntKind.u64.bits)).fdiv (2 ^ min (Int.toNat 8) IntKind.u64.bits)) < (↑len8.size : Int)) then k (.ret (i64 (IntKind.i64.wrap (IntKind.i64.wrap (32 + 8) + IntKind.i64.wrap (↑(len8.data.toList.getD (IntKind.u8.wrap ((n.fdiv (2 ^ min (Int.toNat 32) IntKind.u64.bits)).fdiv (2 ^ min (Int.toNat 8) IntKind.u64.bits))).toNat 0).toNat : Int))))) [] else none else bif decide (0 ≤ IntKind.u8.wrap (n.fdiv (2 ^ min (Int.toNat 32) IntKind.u64.bits))) && decide (IntKind.u8.wrap (n.fdiv (2 ^ min (Int.toNat 32) IntKind.u64.bits)) < (↑len8.size : Int)) then k (.ret (i64 (IntKind.i64.wrap (32 + IntKind.i64.wrap (↑(len8.data.toList.getD (IntKind.u8.wrap (n.fdiv (2 ^ min (Int.toNat 32) IntKind.u64.bits))).toNat 0).toNat : Int))))) [] else none else bif ile 65536 n then bif ile 256 (n.fdiv (2 ^ min (Int.toNat 16) IntKind.u64.bits)) then bif decide (0 ≤ IntKind.u8.wrap ((n.fdiv (2 ^ min (Int.toNat 16) IntKind.u64.bits)).fdiv (2 ^ min (Int.toNat 8) IntKind.u64.bits))) && decide (IntKind.u8.wrap ((n.fdiv (2 ^ min (Int.toNat 16) IntKind.u64.bits)).fdiv (2 ^ min (Int.toNat 8) IntKind.u64.bits)) < (↑len8.size : Int)) then k (.ret (i64 (IntKind.i64.wrap (IntKind.i64.wrap (IntKind.i64.wrap (0 + 16) + 8) + IntKind.i64.wrap (↑(len8.data.toList.getD (IntKind.u8.wrap ((n.fdiv (2 ^ min (Int.toNat 16) IntKind.u64.bits)).fdiv (2 ^ min (Int.toNat 8) IntKind.u64.bits))).toNat 0).toNat : Int))))) [] else none else bif decide (0 ≤ IntKind.u8.wrap (n.fdiv (2 ^ min (Int.toNat 16) IntKind.u64.bits))) && decide (IntKind.u8.wrap (n.fdiv (2 ^ min (Int.toNat 16) IntKind.u64.bits)) < (↑len8.size : Int)) then k (.ret (i64 (IntKind.i64.wrap (IntKind.i64.wrap (0 + 16) + IntKind.i64.wrap (↑(len8.data.toList.getD (IntKind.u8.wrap (n.fdiv (2 ^ min (Int.toNat 16) IntKind.u64.bits))).toNat 0).toNat : Int))))) [] else none else bif ile 256 n then bif decide (0 ≤ IntKind.u8.wrap (n.fdiv (2 ^ min (Int.toNat 8) IntKind.u64.bits))) && decide (IntKind.u8.wrap (n.fdiv (2 ^ min (Int.toNat 8) IntKind.u64.bits)) < (↑len8.size : Int)) then k (.ret (i64 (IntKind.i64.wrap (IntKind.i64.wrap (0 + 8) + IntKind.i64.wrap (↑(len8.data.toList.getD (IntKind.u8.wrap (n.fdiv (2 ^ min (Int.toNat 8) IntKind.u64.bits))).toNat 0).toNat : Int))))) [] else none else bif decide (0 ≤ IntKind.u8.wrap n) && decide (IntKind.u8.wrap n < (↑len8.size : Int)) then k (.ret (i64 (IntKind.i64.wrap (0 + IntKind.i64.wrap (↑(len8.data.toList.getD (IntKind.u8.wrap n).toNat 0).toNat : Int))))) [] else none := by kernel_rfl
noncomputable def r151 : RF := runR (body (E151) 60 151 Tryz.f151 (cod Tryz.f151))
theorem q151 (args : List AV) (os : List AObj) : r151 args os = body (E151) 60 151 Tryz.f151 (cod Tryz.f151) args os _ fin := qR _ _ _
theorem ok151 : SpecOK P 151 (shaped A151 r151) := by
  unfold r151 E151
  refine okF 60 ?_ ?_ ?_ Tryz.func151 ?_ ?_ _
  · exact tnil
  · exact trivial
  · exact hnil
  · kernel_rfl
  · kernel_rfl
noncomputable def E114 (r151 : RF) : Env := En 114 [(0, [1, 3], [1, 3])] [] [] [] [] [(151, shaped A151 r151)]
def a114 : Alt := ⟨false, shI, []⟩
def A114 : List Alt := [a114]
theorem T114 (r151 : RF) (a0 a1 a2 a3 : Int) (X : Type) (k : AEnd → List AObj → Option X)
    (x1 : RE) (e1 : r151 [u a3] [] = x1)
    (x2 : RE) (e2 : r151 [u a2] [] = x2)
    (x3 : RE) (e3 : r151 [u a1] [] = x3)
    (x4 : RE) (e4 : r151 [u a0] [] = x4) :
    body (E114 r151) 60 114 Tryz.f114 (cod Tryz.f114) [U a0 a1 a2 a3] [] X k =
    bif a3 == 0 then bif a2 == 0 then bif a1 == 0 then bif a0 == 0 then k (.ret (i64 0)) [] else bif okAlt a151 x4 then k (.ret (i64 (IntKind.i64.wrap (IntKind.i64.wrap (64 * IntKind.i64.wrap (IntKind.i64.wrap (IntKind.i64.wrap (IntKind.i64.wrap (4 - 1) - 1) - 1) - 1)) + (rV x4).toInt)))) [] else none else bif okAlt a151 x3 then k (.ret (i64 (IntKind.i64.wrap (IntKind.i64.wrap (64 * IntKind.i64.wrap (IntKind.i64.wrap (IntKind.i64.wrap (4 - 1) - 1) - 1)) + (rV x3).toInt)))) [] else none else bif okAlt a151 x2 then k (.ret (i64 (IntKind.i64.wrap (IntKind.i64.wrap (64 * IntKind.i64.wrap (IntKind.i64.wrap (4 - 1) - 1)) + (rV x2).toInt)))) [] else none else bif okAlt a151 x1 then k (.ret (i64 (IntKind.i64.wrap (IntKind.i64.wrap (64 * IntKind.i64.wrap (4 - 1)) + (rV x1).toInt)))) [] else none := by subst e1 e2 e3 e4; kernel_rfl
noncomputable def r114 : RF := runR (body (E114 r151) 60 114 Tryz.f114 (cod Tryz.f114))
theorem q114 (args : List AV) (os : List AObj) : r114 args os = body (E114 r151) 60 114 Tryz.f114 (cod Tryz.f114) args os _ fin := qR _ _ _
theorem ok114 : SpecOK P 114 (shaped A114 r114) := by
  unfold r114 E114
  refine okF 60 ?_ ?_ ?_ Tryz.func114 ?_ ?_ _
  · exact (tcons ok151 tnil)
  · exact trivial
  · exact hnil
  · kernel_rfl
  · kernel_rfl
noncomputable def E82 : Env := En 82 [(0, [1, 3, 6], [3])] [] [] [] [] []
def a82 : Alt := ⟨false, shS, []⟩
def A82 : List Alt := [a82]
theorem T82 (a0 a1 a2 a3 : Int) (X : Type) (k : AEnd → List AObj → Option X) :
    body (E82) 60 82 Tryz.f82 (cod Tryz.f82) [U a0 a1 a2 a3] [] X k =
    k (.ret (st { data := #[Abs.byteOf [u8 (IntKind.u8.wrap (a3.fdiv (2 ^ min (IntKind.i64.wrap (56 - IntKind.i64.wrap (8 * Int.tmod 0 8))).toNat IntKind.u64.bits)))], Abs.byteOf [u8 (IntKind.u8.wrap (a3.fdiv (2 ^ min (IntKind.i64.wrap (56 - IntKind.i64.wrap (8 * (IntKind.i64.wrap 1).tmod 8))).toNat IntKind.u64.bits)))], Abs.byteOf [u8 (IntKind.u8.wrap (a3.fdiv (2 ^ min (IntKind.i64.wrap (56 - IntKind.i64.wrap (8 * (IntKind.i64.wrap (IntKind.i64.wrap 1 + 1)).tmod 8))).toNat IntKind.u64.bits)))], Abs.byteOf [u8 (IntKind.u8.wrap (a3.fdiv (2 ^ min (IntKind.i64.wrap (56 - IntKind.i64.wrap (8 * (IntKind.i64.wrap (IntKind.i64.wrap (IntKind.i64.wrap 1 + 1) + 1)).tmod 8))).toNat IntKind.u64.bits)))], Abs.byteOf [u8 (IntKind.u8.wrap (a3.fdiv (2 ^ min (IntKind.i64.wrap (56 - IntKind.i64.wrap (8 * (IntKind.i64.wrap (IntKind.i64.wrap (IntKind.i64.wrap (IntKind.i64.wrap 1 + 1) + 1) + 1)).tmod 8))).toNat IntKind.u64.bits)))], Abs.byteOf [u8 (IntKind.u8.wrap (a3.fdiv (2 ^ min (IntKind.i64.wrap (56 - IntKind.i64.wrap (8 * (IntKind.i64.wrap (IntKind.i64.wrap (IntKind.i64.wrap (IntKind.i64.wrap (IntKind.i64.wrap 1 + 1) + 1) + 1) + 1)).tmod 8))).toNat IntKind.u64.bits)))], Abs.byteOf [u8 (IntKind.u8.wrap (a3.fdiv (2 ^ min (IntKind.i64.wrap (56 - IntKind.i64.wrap (8 * (IntKind.i64.wrap (IntKind.i64.wrap (IntKind.i64.wrap (IntKind.i64.wrap (IntKind.i64.wrap (IntKind.i64.wrap 1 + 1) + 1) + 1) + 1) + 1)).tmod 8))).toNat IntKind.u64.bits)))], Abs.byteOf [u8 (IntKind.u8.wrap (a3.fdiv (2 ^ min (IntKind.i64.wrap (56 - IntKind.i64.wrap (8 * (IntKind.i64.wrap (IntKind.i64.wrap (IntKind.i64.wrap (IntKind.i64.wrap (IntKind.i64.wrap (IntKind.i64.wrap (IntKind.i64.wrap 1 + 1) + 1) + 1) + 1) + 1) + 1)).tmod 8))).toNat IntKind.u64.bits)))], Abs.byteOf [u8 (IntKind.u8.wrap (a2.fdiv (2 ^ min (IntKind.i64.wrap (56 - IntKind.i64.wrap (8 * (IntKind.i64.wrap (IntKind.i64.wrap (IntKind.i64.wrap (IntKind.i64.wrap (IntKind.i64.wrap (IntKind.i64.wrap (IntKind.i64.wrap (IntKind.i64.wrap 1 + 1) + 1) + 1) + 1) + 1) + 1) + 1)).tmod 8))).toNat IntKind.u64.bits)))], Abs.byteOf [u8 (IntKind.u8.wrap (a2.fdiv (2 ^ min (IntKind.i64.wrap (56 - IntKind.i64.wrap (8 * (IntKind.i64.wrap (IntKind.i64.wrap (IntKind.i64.wrap (IntKind.i64.wrap (IntKind.i64.wrap (IntKind.i64.wrap (IntKind.i64.wrap (IntKind.i64.wrap (IntKind.i64.wrap 1 + 1) + 1) + 1) + 1) + 1) + 1) + 1) + 1)).tmod 8))).toNat IntKind.u64.bits)))], Abs.byteOf [u8 (IntKind.u8.wrap (a2.fdiv (2 ^ min (IntKind.i64.wrap (56 - IntKind.i64.wrap (8 * (IntKind.i64.wrap (IntKind.i64.wrap (IntKind.i64.wrap (IntKind.i64.wrap (IntKind.i64.wrap (IntKind.i64.wrap (IntKind.i64.wrap (IntKind.i64.wrap (IntKind.i64.wrap (IntKind.i64.wrap 1 + 1) + 1) + 1) + 1) + 1) + 1) + 1) + 1) + 1)).tmod 8))).toNat IntKind.u64.bits)))], Abs.byteOf [u8 (IntKind.u8.wrap (a2.fdiv (2 ^ min (IntKind.i64.wrap (56 - IntKind.i64.wrap (8 * (IntKind.i64.wrap (IntKind.i64.wrap (IntKind.i64.wrap (IntKind.i64.wrap (IntKind.i64.wrap (IntKind.i64.wrap (IntKind.i64.wrap (IntKind.i64.wrap (IntKind.i64.wrap (IntKind.i64.wrap (IntKind.i64.wrap 1 + 1) + 1) + 1) + 1) + 1) + 1) + 1) + 1) + 1) + 1)).tmod 8))).toNat IntKind.u64.bits)))], Abs.byteOf [u8 (IntKind.u8.wrap (a2.fdiv (2 ^ min (IntKind.i64.wrap (56 - IntKind.i64.wrap (8 * (IntKind.i64.wrap (IntKind.i64.wrap (IntKind.i64.wrap (IntKind.i64.wrap (IntKind.i64.wrap (IntKind.i64.wrap (IntKind.i64.wrap (IntKind.i64.wrap (IntKind.i64.wrap (IntKind.i64.wrap (IntKind.i64.wrap (IntKind.i64.wrap 1 + 1) + 1) + 1) + 1) + 1) + 1) + 1) + 1) + 1) + 1) + 1)).tmod 8))).toNat IntKind.u64.bits)))], Abs.byteOf [u8 (IntKind.u8.wrap (a2.fdiv (2 ^ min (IntKind.i64.wrap (56 - IntKind.i64.wrap (8 * (IntKind.i64.wrap (IntKind.i64.wrap (IntKind.i64.wrap (IntKind.i64.wrap (IntKind.i64.wrap (IntKind.i64.wrap (IntKind.i64.wrap (IntKind.i64.wrap (IntKind.i64.wrap (IntKind.i64.wrap (IntKind.i64.wrap (IntKind.i64.wrap (IntKind.i64.wrap 1 + 1) + 1) + 1) + 1) + 1) + 1) + 1) + 1) + 1) + 1) + 1) + 1)).tmod 8))).toNat IntKind.u64.bits)))], Abs.byteOf [u8 (IntKind.u8.wrap (a2.fdiv (2 ^ min (IntKind.i64.wrap (56 - IntKind.i64.wrap (8 * (IntKind.i64.wrap (IntKind.i64.wrap (IntKind.i64.wrap (IntKind.i64.wrap (IntKind.i64.wrap (IntKind.i64.wrap (IntKind.i64.wrap (IntKind.i64.wrap (IntKind.i64.wrap (IntKind.i64.wrap (IntKind.i64.wrap (IntKind.i64.wrap (IntKind.i64.wrap (IntKind.i64.wrap 1 + 1) + 1) + 1) + 1) + 1) + 1) + 1) + 1) + 1) + 1) + 1) + 1) + 1)).tmod 8))).toNat IntKind.u64.bits)))], Abs.byteOf [u8 (IntKind.u8.wrap (a2.fdiv (2 ^ min (IntKind.i64.wrap (56 - IntKind.i64.wrap (8 * (IntKind.i64.wrap (IntKind.i64.wrap (IntKind.i64.wrap (IntKind.i64.wrap (IntKind.i64.wrap (IntKind.i64.wrap (IntKind.i64.wrap (IntKind.i64.wrap (IntKind.i64.wrap (IntKind.i64.wrap (IntKind.i64.wrap (IntKind.i64.wrap (IntKind.i64.wrap (IntKind.i64.wrap (IntKind.i64.wrap 1 + 1) + 1) + 1) + 1) + 1) + 1) + 1) + 1) + 1) + 1) + 1) + 1) + 1) + 1)).tmod 8))).toNat IntKind.u64.bits)))], Abs.byteOf [u8 (IntKind.u8.wrap (a1.fdiv (2 ^ min (IntKind.i64.wrap (56 - IntKind.i64.wrap (8 * (IntKind.i64.wrap (IntKind.i64.wrap (IntKind.i64.wrap (IntKind.i64.wrap (IntKind.i64.wrap (IntKind.i64.wrap (IntKind.i64.wrap (IntKind.i64.wrap (IntKind.i64.wrap (IntKind.i64.wrap (IntKind.i64.wrap (IntKind.i64.wrap (IntKind.i64.wrap (IntKind.i64.wrap (IntKind.i64.wrap (IntKind.i64.wrap 1 + 1) + 1) + 1) + 1) + 1) + 1) + 1) + 1) + 1) + 1) + 1) + 1) + 1) + 1) + 1)).tmod 8))).toNat IntKind.u64.bits)))], Abs.byteOf [u8 (IntKind.u8.wrap (a1.fdiv (2 ^ min (IntKind.i64.wrap (56 - IntKind.i64.wrap (8 * (IntKind.i64.wrap (IntKind.i64.wrap (IntKind.i64.wrap (IntKind.i64.wrap (IntKind.i64.wrap (IntKind.i64.wrap (IntKind.i64.wrap (IntKind.i64.wrap (IntKind.i64.wrap (IntKind.i64.wrap (IntKind.i64.wrap (IntKind.i64.wrap (IntKind.i64.wrap (IntKind.i64.wrap (IntKind.i64.wrap (IntKind.i64.wrap (IntKind.i64.wrap 1 + 1) + 1) + 1) + 1) + 1) + 1) + 1) + 1) + 1) + 1) + 1) + 1) + 1) + 1) + 1) + 1)).tmod 8))).toNat IntKind.u64.bits)))], Abs.byteOf [u8 (IntKind.u8.wrap (a1.fdiv (2 ^ min (IntKind.i64.wrap (56 - IntKind.i64.wrap (8 * (IntKind.i64.wrap (IntKind.i64.wrap (IntKind.i64.wrap (IntKind.i64.wrap (IntKind.i64.wrap (IntKind.i64.wrap (IntKind.i64.wrap (IntKind.i64.wrap (IntKind.i64.wrap (IntKind.i64.wrap (IntKind.i64.wrap (IntKind.i64.wrap (IntKind.i64.wrap (IntKind.i64.wrap (IntKind.i64.wrap (IntKind.i64.wrap (IntKind.i64.wrap (IntKind.i64.wrap 1 + 1) + 1) + 1) + 1) + 1) + 1) + 1) + 1) + 1) + 1) + 1) + 1) + 1) + 1) + 1) + 1) + 1)).tmod 8))).toNat IntKind.u64.bits)))], Abs.byteOf [u8 (IntKind.u8.wrap (a1.fdiv (2 ^ min (IntKind.i64.wrap (56 - IntKind.i64.wrap (8 * (IntKind.i64.wrap (IntKind.i64.wrap (IntKind.i64.wrap (IntKind.i64.wrap (IntKind.i64.wrap (IntKind.i64.wrap (IntKind.i64.wrap (IntKind.i64.wrap (IntKind.i64.wrap (IntKind.i64.wrap (IntKind.i64.wrap (IntKind.i64.wrap (IntKind.i64.wrap (IntKind.i64.wrap (IntKind.i64.wrap (IntKind.i64.wrap (IntKind.i64.wrap (IntKind.i64.wrap (IntKind.i64.wrap 1 + 1) + 1) + 1) + 1) + 1) + 1) + 1) + 1) + 1) + 1) + 1) + 1) + 1) + 1) + 1) + 1) + 1) + 1)).tmod 8))).toNat IntKind.u64.bits)))], Abs.byteOf [u8 (IntKind.u8.wrap (a1.fdiv (2 ^ min (IntKind.i64.wrap (56 - IntKind.i64.wrap (8 * (IntKind.i64.wrap (IntKind.i64.wrap (IntKind.i64.wrap (IntKind.i64.wrap (IntKind.i64.wrap (IntKind.i64.wrap (IntKind.i64.wrap (IntKind.i64.wrap (IntKind.i64.wrap (IntKind.i64.wrap (IntKind.i64.wrap (IntKind.i64.wrap (IntKind.i64.wrap (IntKind.i64.wrap (IntKind.i64.wrap (IntKind.i64.wrap (IntKind.i64.wrap (IntKind.i64.wrap (IntKind.i64.wrap (IntKind.i64.wrap 1 + 1) + 1) + 1) + 1) + 1) + 1) + 1) + 1) + 1) + 1) + 1) + 1) + 1) + 1) + 1) + 1) + 1) + 1) + 1)).tmod 8))).toNat IntKind.u64.bits)))], Abs.byteOf [u8 (IntKind.u8.wrap (a1.fdiv (2 ^ min (IntKind.i64.wrap (56 - IntKind.i64.wrap (8 * (IntKind.i64.wrap (IntKind.i64.wrap (IntKind.i64.wrap (IntKind.i64.wrap (IntKind.i64.wrap (IntKind.i64.wrap (IntKind.i64.wrap (IntKind.i64.wrap (IntKind.i64.wrap (IntKind.i64.wrap (IntKind.i64.wrap (IntKind.i64.wrap (IntKind.i64.wrap (IntKind.i64.wrap (IntKind.i64.wrap (IntKind.i64.wrap (IntKind.i64.wrap (IntKind.i64.wrap (IntKind.i64.wrap (IntKind.i64.wrap (IntKind.i64.wrap 1 + 1) + 1) + 1) + 1) + 1) + 1) + 1) + 1) + 1) + 1) + 1) + 1) + 1) + 1) + 1) + 1) + 1) + 1) + 1) + 1)).tmod 8))).toNat IntKind.u64.bits)))], Abs.byteOf [u8 (IntKind.u8.wrap (a1.fdiv (2 ^ min (IntKind.i64.wrap (56 - IntKind.i64.wrap (8 * (IntKind.i64.wrap (IntKind.i64.wrap (IntKind.i64.wrap (IntKind.i64.wrap (IntKind.i64.wrap (IntKind.i64.wrap (IntKind.i64.wrap (IntKind.i64.wrap (IntKind.i64.wrap (IntKind.i64.wrap (IntKind.i64.wrap (IntKind.i64.wrap (IntKind.i64.wrap (IntKind.i64.wrap (IntKind.i64.wrap (IntKind.i64.wrap (IntKind.i64.wrap (IntKind.i64.wrap (IntKind.i64.wrap (IntKind.i64.wrap (IntKind.i64.wrap (IntKind.i64.wrap 1 + 1) + 1) + 1) + 1) + 1) + 1) + 1) + 1) + 1) + 1) + 1) + 1) + 1) + 1) + 1) + 1) + 1) + 1) + 1) + 1) + 1)).tmod 8))).toNat IntKind.u64.bits)))], Abs.byteOf [u8 (IntKind.u8.wrap (a1.fdiv (2 ^ min (IntKind.i64.wrap (56 - IntKind.i64.wrap (8 * (IntKind.i64.wrap (IntKind.i64.wrap (IntKind.i64.wrap (IntKind.i64.wrap (IntKind.i64.wrap (IntKind.i64.wrap (IntKind.i64.wrap (IntKind.i64.wrap (IntKind.i64.wrap (IntKind.i64.wrap (IntKind.i64.wrap (IntKind.i64.wrap (IntKind.i64.wrap (IntKind.i64.wrap (IntKind.i64.wrap (IntKind.i64.wrap (IntKind.i64.wrap (IntKind.i64.wrap (IntKind.i64.wrap (IntKind.i64.wrap (IntKind.i64.wrap (IntKind.i64.wrap (IntKind.i64.wrap 1 + 1) + 1) + 1) + 1) + 1) + 1) + 1) + 1) + 1) + 1) + 1) + 1) + 1) + 1) + 1) + 1) + 1) + 1) + 1) + 1) + 1) + 1)).tmod 8))).toNat IntKind.u64.bits)))], Abs.byteOf [u8 (IntKind.u8.wrap (a0.fdiv (2 ^ min (IntKind.i64.wrap (56 - IntKind.i64.wrap (8 * (IntKind.i64.wrap (IntKind.i64.wrap (IntKind.i64.wrap (IntKind.i64.wrap (IntKind.i64.wrap (IntKind.i64.wrap (IntKind.i64.wrap (IntKind.i64.wrap (IntKind.i64.wrap (IntKind.i64.wrap (IntKind.i64.wrap (IntKind.i64.wrap (IntKind.i64.wrap (IntKind.i64.wrap (IntKind.i64.wrap (IntKind.i64.wrap (IntKind.i64.wrap (IntKind.i64.wrap (IntKind.i64.wrap (IntKind.i64.wrap (IntKind.i64.wrap (IntKind.i64.wrap (IntKind.i64.wrap (IntKind.i64.wrap 1 + 1) + 1) + 1) + 1) + 1) + 1) + 1) + 1) + 1) + 1) + 1) + 1) + 1) + 1) + 1) + 1) + 1) + 1) + 1) + 1) + 1) + 1) + 1)).tmod 8))).toNat IntKind.u64.bits)))], Abs.byteOf [u8 (IntKind.u8.wrap (a0.fdiv (2 ^ min (IntKind.i64.wrap (56 - IntKind.i64.wrap (8 * (IntKind.i64.wrap (IntKind.i64.wrap (IntKind.i64.wrap (IntKind.i64.wrap (IntKind.i64.wrap (IntKind.i64.wrap (IntKind.i64.wrap (IntKind.i64.wrap (IntKind.i64.wrap (IntKind.i64.wrap (IntKind.i64.wrap (IntKind.i64.wrap (IntKind.i64.wrap (IntKind.i64.wrap (IntKind.i64.wrap (IntKind.i64.wrap (IntKind.i64.wrap (IntKind.i64.wrap (IntKind.i64.wrap (IntKind.i64.wrap (IntKind.i64.wrap (IntKind.i64.wrap (IntKind.i64.wrap (IntKind.i64.wrap (IntKind.i64.wrap 1 + 1) + 1) + 1) + 1) + 1) + 1) + 1) + 1) + 1) + 1) + 1) + 1) + 1) + 1) + 1) + 1) + 1) + 1) + 1) + 1) + 1) + 1) + 1) + 1)).tmod 8))).toNat IntKind.u64.bits)))], Abs.byteOf [u8 (IntKind.u8.wrap (a0.fdiv (2 ^ min (IntKind.i64.wrap (56 - IntKind.i64.wrap (8 * (IntKind.i64.wrap (IntKind.i64.wrap (IntKind.i64.wrap (IntKind.i64.wrap (IntKind.i64.wrap (IntKind.i64.wrap (IntKind.i64.wrap (IntKind.i64.wrap (IntKind.i64.wrap (IntKind.i64.wrap (IntKind.i64.wrap (IntKind.i64.wrap (IntKind.i64.wrap (IntKind.i64.wrap (IntKind.i64.wrap (IntKind.i64.wrap (IntKind.i64.wrap (IntKind.i64.wrap (IntKind.i64.wrap (IntKind.i64.wrap (IntKind.i64.wrap (IntKind.i64.wrap (IntKind.i64.wrap (IntKind.i64.wrap (IntKind.i64.wrap (IntKind.i64.wrap 1 + 1) + 1) + 1) + 1) + 1) + 1) + 1) + 1) + 1) + 1) + 1) + 1) + 1) + 1) + 1) + 1) + 1) + 1) + 1) + 1) + 1) + 1) + 1) + 1) + 1)).tmod 8))).toNat IntKind.u64.bits)))], Abs.byteOf [u8 (IntKind.u8.wrap (a0.fdiv (2 ^ min (IntKind.i64.wrap (56 - IntKind.i64.wrap (8 * (IntKind.i64.wrap (IntKind.i64.wrap (IntKind.i64.wrap (IntKind.i64.wrap (IntKind.i64.wrap (IntKind.i64.wrap (IntKind.i64.wrap (IntKind.i64.wrap (IntKind.i64.wrap (IntKind.i64.wrap (IntKind.i64.wrap (IntKind.i64.wrap (IntKind.i64.wrap (IntKind.i64.wrap (IntKind.i64.wrap (IntKind.i64.wrap (IntKind.i64.wrap (IntKind.i64.wrap (IntKind.i64.wrap (IntKind.i64.wrap (IntKind.i64.wrap (IntKind.i64.wrap (IntKind.i64.wrap (IntKind.i64.wrap (IntKind.i64.wrap (IntKind.i64.wrap (IntKind.i64.wrap 1 + 1) + 1) + 1) + 1) + 1) + 1) + 1) + 1) + 1) + 1) + 1) + 1) + 1) + 1) + 1) + 1) + 1) + 1) + 1) + 1) + 1) + 1) + 1) + 1) + 1) + 1)).tmod 8))).toNat IntKind.u64.bits)))], Abs.byteOf [u8 (IntKind.u8.wrap (a0.fdiv (2 ^ min (IntKind.i64.wrap (56 - IntKind.i64.wrap (8 * (IntKind.i64.wrap (IntKind.i64.wrap (IntKind.i64.wrap (IntKind.i64.wrap (IntKind.i64.wrap (IntKind.i64.wrap (IntKind.i64.wrap (IntKind.i64.wrap (IntKind.i64.wrap (IntKind.i64.wrap (IntKind.i64.wrap (IntKind.i64.wrap (IntKind.i64.wrap (IntKind.i64.wrap (IntKind.i64.wrap (IntKind.i64.wrap (IntKind.i64.wrap (IntKind.i64.wrap (IntKind.i64.wrap (IntKind.i64.wrap (IntKind.i64.wrap (IntKind.i64.wrap (IntKind.i64.wrap (IntKind.i64.wrap (IntKind.i64.wrap (IntKind.i64.wrap (IntKind.i64.wrap (IntKind.i64.wrap 1 + 1) + 1) + 1) + 1) + 1) + 1) + 1) + 1) + 1) + 1) + 1) + 1) + 1) + 1) + 1) + 1) + 1) + 1) + 1) + 1) + 1) + 1) + 1) + 1) + 1) + 1) + 1)).tmod 8))).toNat IntKind.u64.bits)))], Abs.byteOf [u8 (IntKind.u8.wrap (a0.fdiv (2 ^ min (IntKind.i64.wrap (56 - IntKind.i64.wrap (8 * (IntKind.i64.wrap (IntKind.i64.wrap (IntKind.i64.wrap (IntKind.i64.wrap (IntKind.i64.wrap (IntKind.i64.wrap (IntKind.i64.wrap (IntKind.i64.wrap (IntKind.i64.wrap (IntKind.i64.wrap (IntKind.i64.wrap (IntKind.i64.wrap (IntKind.i64.wrap (IntKind.i64.wrap (IntKind.i64.wrap (IntKind.i64.wrap (IntKind.i64.wrap (IntKind.i64.wrap (IntKind.i64.wrap (IntKind.i64.wrap (IntKind.i64.wrap (IntKind.i64.wrap (IntKind.i64.wrap (IntKind.i64.wrap (IntKind.i64.wrap (IntKind.i64.wrap (IntKind.i64.wrap (IntKind.i64.wrap (IntKind.i64.wrap 1 + 1) + 1) + 1) + 1) + 1) + 1) + 1) + 1) + 1) + 1) + 1) + 1) + 1) + 1) + 1) + 1) + 1) + 1) + 1) + 1) + 1) + 1) + 1) + 1) + 1) + 1) + 1) + 1)).tmod 8))).toNat IntKind.u64.bits)))], Abs.byteOf [u8 (IntKind.u8.wrap (a0.fdiv (2 ^ min (IntKind.i64.wrap (56 - IntKind.i64.wrap (8 * (IntKind.i64.wrap (IntKind.i64.wrap (IntKind.i64.wrap (IntKind.i64.wrap (IntKind.i64.wrap (IntKind.i64.wrap (IntKind.i64.wrap (IntKind.i64.wrap (IntKind.i64.wrap (IntKind.i64.wrap (IntKind.i64.wrap (IntKind.i64.wrap (IntKind.i64.wrap (IntKind.i64.wrap (IntKind.i64.wrap (IntKind.i64.wrap (IntKind.i64.wrap (IntKind.i64.wrap (IntKind.i64.wrap (IntKind.i64.wrap (IntKind.i64.wrap (IntKind.i64.wrap (IntKind.i64.wrap (IntKind.i64.wrap (IntKind.i64.wrap (IntKind.i64.wrap (IntKind.i64.wrap (IntKind.i64.wrap (IntKind.i64.wrap (IntKind.i64.wrap 1 + 1) + 1) + 1) + 1) + 1) + 1) + 1) + 1) + 1) + 1) + 1) + 1) + 1) + 1) + 1) + 1) + 1) + 1) + 1) + 1) + 1) + 1) + 1) + 1) + 1) + 1) + 1) + 1) + 1)).tmod 8))).toNat IntKind.u64.bits)))], Abs.byteOf [u8 (IntKind.u8.wrap (a0.fdiv (2 ^ min (IntKind.i64.wrap (56 - IntKind.i64.wrap (8 * (IntKind.i64.wrap (IntKind.i64.wrap (IntKind.i64.wrap (IntKind.i64.wrap (IntKind.i64.wrap (IntKind.i64.wrap (IntKind.i64.wrap (IntKind.i64.wrap (IntKind.i64.wrap (IntKind.i64.wrap (IntKind.i64.wrap (IntKind.i64.wrap (IntKind.i64.wrap (IntKind.i64.wrap (IntKind.i64.wrap (IntKind.i64.wrap (IntKind.i64.wrap (IntKind.i64.wrap (IntKind.i64.wrap (IntKind.i64.wrap (IntKind.i64.wrap (IntKind.i64.wrap (IntKind.i64.wrap (IntKind.i64.wrap (IntKind.i64.wrap (IntKind.i64.wrap (IntKind.i64.wrap (IntKind.i64.wrap (IntKind.i64.wrap (IntKind.i64.wrap (IntKind.i64.wrap 1 + 1) + 1) + 1) + 1) + 1) + 1) + 1) + 1) + 1) + 1) + 1) + 1) + 1) + 1) + 1) + 1) + 1) + 1) + 1) + 1) + 1) + 1) + 1) + 1) + 1) + 1) + 1) + 1) + 1) + 1)).tmod 8))).toNat IntKind.u64.bits)))]] })) [] := by kernel_rfl
noncomputable def r82 : RF := runR (body (E82) 60 82 Tryz.f82 (cod Tryz.f82))
theorem q82 (args : List AV) (os : List AObj) : r82 args os = body (E82) 60 82 Tryz.f82 (cod Tryz.f82) args os _ fin := qR _ _ _
theorem ok82 : SpecOK P 82 (shaped A82 r82) := by
  unfold r82 E82
  refine okF 60 ?_ ?_ ?_ Tryz.func82 ?_ ?_ _
  · exact tnil
  · exact trivial
  · exact hnil
  · kernel_rfl
  · kernel_rfl
noncomputable def E170_0 (r191 : RF) : Env := En 170 [(0, [0, 2, 4, 11, 12], [2, 4])] [] [] [] [] [(191, shaped A191 r191)]
def a170_0 : BAlt := ⟨.normal, (.junk :: .junk :: .ptr 0 0 :: .junk :: .ptr 1 0 :: sj 22 []), [.cells [sh6, sh6, sh6, sh6], .cells [sh6, sh6, sh6, sh6]], []⟩
def A170_0 : List BAlt := [a170_0]
noncomputable def h170_0 : RB := runB (blockRun (E170_0 r191) (fun _ _ => 200) 0)
theorem q170_0 (c : Code) (a : AAct) (os : List AObj) : h170_0 c a os = exec (E170_0 r191) ((fun _ _ => 200) a os) 0 (.block 0 c) a os _ finB := qB _ _ _ _ _ _
theorem k170_0 : blk Tryz.f170 0 = .loop (rnd Tryz.f170 0) := by kernel_rfl
theorem p170_0 (T : List AV) (os : List AObj) (F : Nat) (hF : (fun _ _ => 200) (⟨T, [], 170, 0, false⟩ : AAct) os = F + 1) : h170_0 (blk Tryz.f170 0) ⟨T, [], 170, 0, false⟩ os = exec (E170_0 r191) F 0 (.loop (rnd Tryz.f170 0)) ⟨T, [], 170, 0, false⟩ os _ (bK (E170_0 r191) F 0 finB) := by
  rw [q170_0, hF, exec_block (by kernel_rfl), k170_0]
theorem okb170_0 : BlockOK P 170 0 (bShaped A170_0 [] (some [0, 2, 4, 11, 12]) h170_0) := by
  unfold h170_0 E170_0
  refine okBl _ ?_ ?_ ?_ _ _ _
  · exact (tcons ok191 tnil)
  · exact trivial
  · exact hnil
theorem TL170_0r (r191 : RF) (s : ByteArray) (i n a0 a1 a2 a3 : Int) (d m : Nat) (L : AAct → List AObj → ∀ X : Type, (AExit → AAct → List AObj → Option X) → Option X) (X : Type) (k : AExit → AAct → List AObj → Option X)
    (x1 : RE) (e1 : r191 [U a0 a1 a2 a3, u 8] [] = x1) :
    roundL (E170_0 r191) (d + 59) 0 (rnd Tryz.f170 0) L ⟨(st s :: J :: .ptr 0 0 :: J :: .ptr 1 0 :: jn 6 (i64 n :: i64 i :: jn 14 [])), [], 170, 0, false⟩ [.cells [u 0, u 0, u 0, u 0], .cells [u a0, u a1, u a2, u a3]] X (bK (E170_0 r191) (m + 60) 0 k) =
    bif ilt i n then bif okAlt a191 x1 then bif decide (0 ≤ i) && decide (i < (↑s.size : Int)) then L { tmps := (st s :: J :: AV.ptr 0 0 :: J :: AV.ptr 1 0 :: jn 6 (i64 n :: i64 (IntKind.i64.wrap (i + 1)) :: jn 14 [])), defers := [], fn := 170, foot := 0, round := false } [AObj.cells [u 0, u 0, u 0, u 0], AObj.cells [u (IntKind.u64.wrap (↑(BitVec.ofInt IntKind.u64.bits ((rV x1).items.getD 0 J).toInt ||| BitVec.ofInt IntKind.u64.bits (IntKind.u64.wrap (↑(s.data.1.getD i.toNat 0).toNat : Int))).toNat : Int)), u ((rV x1).items.getD 1 J).toInt, u ((rV x1).items.getD 2 J).toInt, u ((rV x1).items.getD 3 J).toInt]] X (bK (E170_0 r191) (m + 60) 0 k) else none else none else k AExit.normal { tmps := (J :: J :: AV.ptr 0 0 :: J :: AV.ptr 1 0 :: jn 22 []), defers := [], fn := 170, foot := 0, round := false } [AObj.cells [u 0, u 0, u 0, u 0], AObj.cells [u a0, u a1, u a2, u a3]] := by subst e1; kernel_rfl
theorem T170_0r (r191 : RF) (s : ByteArray) (i n a0 a1 a2 a3 : Int) (d m : Nat) (X : Type) (k : AExit → AAct → List AObj → Option X)
    (x1 : RE) (e1 : r191 [U a0 a1 a2 a3, u 8] [] = x1) :
    exec (E170_0 r191) (d + 60) 0 (.loop (rnd Tryz.f170 0)) ⟨(st s :: J :: .ptr 0 0 :: J :: .ptr 1 0 :: jn 6 (i64 n :: i64 i :: jn 14 [])), [], 170, 0, false⟩ [.cells [u 0, u 0, u 0, u 0], .cells [u a0, u a1, u a2, u a3]] X (bK (E170_0 r191) (m + 60) 0 k) =
    bif ilt i n then bif okAlt a191 x1 then bif decide (0 ≤ i) && decide (i < (↑s.size : Int)) then exec (E170_0 r191) (d + 59) 0 (.loop (rnd Tryz.f170 0)) { tmps := (st s :: J :: AV.ptr 0 0 :: J :: AV.ptr 1 0 :: jn 6 (i64 n :: i64 (IntKind.i64.wrap (i + 1)) :: jn 14 [])), defers := [], fn := 170, foot := 0, round := false } [AObj.cells [u 0, u 0, u 0, u 0], AObj.cells [u (IntKind.u64.wrap (↑(BitVec.ofInt IntKind.u64.bits ((rV x1).items.getD 0 J).toInt ||| BitVec.ofInt IntKind.u64.bits (IntKind.u64.wrap (↑(s.data.1.getD i.toNat 0).toNat : Int))).toNat : Int)), u ((rV x1).items.getD 1 J).toInt, u ((rV x1).items.getD 2 J).toInt, u ((rV x1).items.getD 3 J).toInt]] X (bK (E170_0 r191) (m + 60) 0 k) else none else none else k AExit.normal { tmps := (J :: J :: AV.ptr 0 0 :: J :: AV.ptr 1 0 :: jn 22 []), defers := [], fn := 170, foot := 0, round := false } [AObj.cells [u 0, u 0, u 0, u 0], AObj.cells [u a0, u a1, u a2, u a3]] := (exec_loop _ _ _ _ _ _ _ _).trans (TL170_0r r191 s i n a0 a1 a2 a3 d m (fun a os X k => exec (E170_0 r191) (d + 59) 0 (.loop (rnd Tryz.f170 0)) a os X k) X k _ e1)
noncomputable def E170 (r191 : RF) (h170_0 : RB) : Env := En 170 [] [] [] [(0, bShaped A170_0 [] (some [0, 2, 4, 11, 12]) h170_0)] [] [(191, shaped A191 r191)]
def a170 : Alt := ⟨false, .tup [shU, shI], []⟩
def A170 : List Alt := [a170]
theorem T170 (r191 : RF) (h170_0 : RB) (s : ByteArray) (X : Type) (k : AEnd → List AObj → Option X)
    (x1 : RBE) (e1 : h170_0 (blk Tryz.f170 0) { tmps := (st s :: J :: AV.ptr 0 0 :: J :: AV.ptr 1 0 :: jn 6 (i64 (↑s.size : Int) :: i64 0 :: jn 14 [])), defers := [], fn := 170, foot := 0, round := false } [AObj.cells [u 0, u 0, u 0, u 0], AObj.cells [u 0, u 0, u 0, u 0]] = x1) :
    body (E170 r191 h170_0) 60 170 Tryz.f170 (cod Tryz.f170) [st s] [] X k =
    bif ilt 32 (↑s.size : Int) then k (.ret (.tuple [U 0 0 0 0, i64 3])) [] else bif okB a170_0 170 0 false x1 then k (.ret (.tuple [AV.agg (tu4 ((bOs x1).getD 1 AObj.dead).cellsOf), i64 0])) [] else none := by subst e1; kernel_rfl
noncomputable def r170 : RF := runR (body (E170 r191 h170_0) 60 170 Tryz.f170 (cod Tryz.f170))
theorem q170 (args : List AV) (os : List AObj) : r170 args os = body (E170 r191 h170_0) 60 170 Tryz.f170 (cod Tryz.f170) args os _ fin := qR _ _ _
theorem ok170 : SpecOK P 170 (shaped A170 r170) := by
  unfold r170 E170
  refine okF 60 ?_ ?_ ?_ Tryz.func170 ?_ ?_ _
  · exact (tcons ok191 tnil)
  · exact trivial
  · exact (hcons okb170_0 hnil)
  · kernel_rfl
  · kernel_rfl
end Go.Proofs.Vm
end
section
namespace Go.Proofs.Vm
open Go Go.Abs
def R64 (x : Int) : Prop := 0 ≤ x ∧ x ≤ 18446744073709551615
theorem r64w (n : Int) : R64 (IntKind.u64.wrap n) := by unfold R64; rw [IntKind.wrap_u64]; omega
structure R4 (a0 a1 a2 a3 : Int) : Prop where
  h0 : R64 a0
  h1 : R64 a1
  h2 : R64 a2
  h3 : R64 a3
theorem r4_0 : R4 0 0 0 0 := by constructor <;> (constructor <;> omega)
theorem r4w (a b c d : Int) : R4 (IntKind.u64.wrap a) (IntKind.u64.wrap b) (IntKind.u64.wrap c) (IntKind.u64.wrap d) := ⟨r64w a, r64w b, r64w c, r64w d⟩
theorem w89 {x y c : Int} (hx : R64 x) (hy : R64 y) (h0 : 0 ≤ c) (h1 : c ≤ 1) : r89 [u x, u y, u c] [] = some (.ret (.tuple [u ((x + y + c) % 18446744073709551616), u ((x + y + c) / 18446744073709551616)]), []) := by
  simp [r89, u, ile_eq, hx.1, hy.1, h0, h1]
theorem w172 {x y c : Int} (hx : R64 x) (hy : R64 y) (h0 : 0 ≤ c) (h1 : c ≤ 1) : r172 [u x, u y, u c] [] = some (.ret (.tuple [u ((x + 18446744073709551616 - y - c) % 18446744073709551616), u (bif ilt x (y + c) then 1 else 0)]), []) := by
  simp [r172, u, ile_eq, hx.1, hy.1, hy.2, h0, h1]
theorem w83 (n : Int) : r83 [u n] [] = some (.ret (U n 0 0 0), []) := (q83 _ _).trans (T83 n _ fin)
theorem r64m (n : Int) : R64 (n % 18446744073709551616) := by unfold R64; omega
theorem r64_0 : R64 0 := by unfold R64; omega
theorem r64_1 : R64 1 := by unfold R64; omega
theorem r64s {a : Int} (h : R64 a) (n : Nat) : R64 (a.fdiv (2 ^ n)) := by
  have hp : (0 : Int) < 2 ^ n := Int.pow_pos (by omega)
  rw [Int.fdiv_eq_ediv_of_nonneg _ (by omega)]
  exact ⟨Int.ediv_nonneg h.1 (by omega), Int.le_trans (Int.ediv_le_self _ h.1) h.2⟩
def val (a0 a1 a2 a3 : Int) : Int := a0 + 18446744073709551616 * a1 + 340282366920938463463374607431768211456 * a2 + 6277101735386680763835789423207666416102355444464034512896 * a3
def ov (o : Bool) : Int := bif o then 115792089237316195423570985008687907853269984665640564039457584007913129639936 else 0
theorem val_lt {a0 a1 a2 a3 : Int} (h : R4 a0 a1 a2 a3) : 0 ≤ val a0 a1 a2 a3 ∧ val a0 a1 a2 a3 < 115792089237316195423570985008687907853269984665640564039457584007913129639936 := by
  obtain ⟨⟨_, _⟩, ⟨_, _⟩, ⟨_, _⟩, ⟨_, _⟩⟩ := h
  unfold val; omega
theorem w109 {a0 a1 a2 a3 b0 b1 b2 b3 : Int} (ha : R4 a0 a1 a2 a3) (hb : R4 b0 b1 b2 b3) : ∃ s0 s1 s2 s3 o, r109 [U a0 a1 a2 a3, U b0 b1 b2 b3] [] = some (.ret (.tuple [U s0 s1 s2 s3, bo o]), []) ∧ R4 s0 s1 s2 s3 ∧ val s0 s1 s2 s3 + ov o = val a0 a1 a2 a3 + val b0 b1 b2 b3 := by
  obtain ⟨⟨_, _⟩, ⟨_, _⟩, ⟨_, _⟩, ⟨_, _⟩⟩ := ha
  obtain ⟨⟨_, _⟩, ⟨_, _⟩, ⟨_, _⟩, ⟨_, _⟩⟩ := hb
  have e1 := w89 (x := a0) (y := b0) (c := 0) ⟨‹_›, ‹_›⟩ ⟨‹_›, ‹_›⟩ (by omega) (by omega)
  have e2 := w89 (x := a1) (y := b1) (c := (a0 + b0 + 0) / 18446744073709551616) ⟨‹_›, ‹_›⟩ ⟨‹_›, ‹_›⟩ (by omega) (by omega)
  generalize hc1 : (a0 + b0 + 0) / 18446744073709551616 = c1 at *
  have hc1b : 0 ≤ c1 ∧ c1 ≤ 1 := by omega
  have e3 := w89 (x := a2) (y := b2) (c := (a1 + b1 + c1) / 18446744073709551616) ⟨‹_›, ‹_›⟩ ⟨‹_›, ‹_›⟩ (by omega) (by omega)
  generalize hc2 : (a1 + b1 + c1) / 18446744073709551616 = c2 at *
  have hc2b : 0 ≤ c2 ∧ c2 ≤ 1 := by omega
  have e4 := w89 (x := a3) (y := b3) (c := (a2 + b2 + c2) / 18446744073709551616) ⟨‹_›, ‹_›⟩ ⟨‹_›, ‹_›⟩ (by omega) (by omega)
  generalize hc3 : (a2 + b2 + c2) / 18446744073709551616 = c3 at *
  have hc3b : 0 ≤ c3 ∧ c3 ≤ 1 := by omega
  generalize hc4 : (a3 + b3 + c3) / 18446744073709551616 = c4 at *
  have hc4b : 0 ≤ c4 ∧ c4 ≤ 1 := by omega
  refine ⟨(a0 + b0 + 0) % 18446744073709551616, (a1 + b1 + c1) % 18446744073709551616, (a2 + b2 + c2) % 18446744073709551616, (a3 + b3 + c3) % 18446744073709551616, c4 == 1, (q109 _ _).trans (T109 r89 a0 a1 a2 a3 b0 b1 b2 b3 _ fin _ e1 _ e2 _ e3 _ e4), ⟨r64m _, r64m _, r64m _, r64m _⟩, ?_⟩
  have ho : ov (c4 == 1) = 115792089237316195423570985008687907853269984665640564039457584007913129639936 * c4 := by
    have : c4 = 0 ∨ c4 = 1 := by omega
    rcases this with h | h <;> rw [h] <;> rfl
  rw [ho]; unfold val; omega
theorem bit01 (p : Bool) : 0 ≤ (bif p then (1 : Int) else 0) ∧ (bif p then (1 : Int) else 0) ≤ 1 := by cases p <;> decide
theorem iltb {x y c : Int} (h : (bif ilt x y then (1 : Int) else 0) = c) : (x < y ∧ c = 1) ∨ (y ≤ x ∧ c = 0) := by
  rw [ilt_eq] at h
  by_cases hx : x < y
  · rw [decide_eq_true hx] at h; exact .inl ⟨hx, h.symm⟩
  · rw [decide_eq_false hx] at h; exact .inr ⟨by omega, h.symm⟩
theorem w119 {a0 a1 a2 a3 b0 b1 b2 b3 : Int} (ha : R4 a0 a1 a2 a3) (hb : R4 b0 b1 b2 b3) : ∃ s0 s1 s2 s3 o, r119 [U a0 a1 a2 a3, U b0 b1 b2 b3] [] = some (.ret (.tuple [U s0 s1 s2 s3, bo o]), []) ∧ R4 s0 s1 s2 s3 ∧ val s0 s1 s2 s3 = val a0 a1 a2 a3 - val b0 b1 b2 b3 + ov o := by
  have e1 := w172 ha.h0 hb.h0 (c := 0) (by omega) (by omega)
  generalize hc1 : (bif ilt a0 (b0 + 0) then (1 : Int) else 0) = c1 at *
  have hc1b : 0 ≤ c1 ∧ c1 ≤ 1 := hc1 ▸ bit01 _
  have e2 := w172 ha.h1 hb.h1 hc1b.1 hc1b.2
  generalize hc2 : (bif ilt a1 (b1 + c1) then (1 : Int) else 0) = c2 at *
  have hc2b : 0 ≤ c2 ∧ c2 ≤ 1 := hc2 ▸ bit01 _
  have e3 := w172 ha.h2 hb.h2 hc2b.1 hc2b.2
  generalize hc3 : (bif ilt a2 (b2 + c2) then (1 : Int) else 0) = c3 at *
  have hc3b : 0 ≤ c3 ∧ c3 ≤ 1 := hc3 ▸ bit01 _
  have e4 := w172 ha.h3 hb.h3 hc3b.1 hc3b.2
  generalize hc4 : (bif ilt a3 (b3 + c3) then (1 : Int) else 0) = c4 at *
  have hc4b : 0 ≤ c4 ∧ c4 ≤ 1 := hc4 ▸ bit01 _
  obtain ⟨⟨_, _⟩, ⟨_, _⟩, ⟨_, _⟩, ⟨_, _⟩⟩ := ha
  obtain ⟨⟨_, _⟩, ⟨_, _⟩, ⟨_, _⟩, ⟨_, _⟩⟩ := hb
  refine ⟨(a0 + 18446744073709551616 - b0 - 0) % 18446744073709551616, (a1 + 18446744073709551616 - b1 - c1) % 18446744073709551616, (a2 + 18446744073709551616 - b2 - c2) % 18446744073709551616, (a3 + 18446744073709551616 - b3 - c3) % 18446744073709551616, c4 == 1, (q119 _ _).trans (T119 r172 a0 a1 a2 a3 b0 b1 b2 b3 _ fin _ e1 _ e2 _ e3 _ e4), ⟨r64m _, r64m _, r64m _, r64m _⟩, ?_⟩
  have ho : ov (c4 == 1) = 115792089237316195423570985008687907853269984665640564039457584007913129639936 * c4 := by
    have : c4 = 0 ∨ c4 = 1 := by omega
    rcases this with h | h <;> rw [h] <;> rfl
  have m1 : (a0 + 18446744073709551616 - b0 - 0) % 18446744073709551616 = a0 - b0 + 18446744073709551616 * c1 := by rcases iltb hc1 with ⟨_, h⟩ | ⟨_, h⟩ <;> subst h <;> omega
  have m2 : (a1 + 18446744073709551616 - b1 - c1) % 18446744073709551616 = a1 - b1 - c1 + 18446744073709551616 * c2 := by rcases iltb hc2 with ⟨_, h⟩ | ⟨_, h⟩ <;> subst h <;> omega
  have m3 : (a2 + 18446744073709551616 - b2 - c2) % 18446744073709551616 = a2 - b2 - c2 + 18446744073709551616 * c3 := by rcases iltb hc3 with ⟨_, h⟩ | ⟨_, h⟩ <;> subst h <;> omega
  have m4 : (a3 + 18446744073709551616 - b3 - c3) % 18446744073709551616 = a3 - b3 - c3 + 18446744073709551616 * c4 := by rcases iltb hc4 with ⟨_, h⟩ | ⟨_, h⟩ <;> subst h <;> omega
  rw [ho, m1, m2, m3, m4]; unfold val; omega
theorem val_inj {a0 a1 a2 a3 b0 b1 b2 b3 : Int} (ha : R4 a0 a1 a2 a3) (hb : R4 b0 b1 b2 b3) (h : val a0 a1 a2 a3 = val b0 b1 b2 b3) : a0 = b0 ∧ a1 = b1 ∧ a2 = b2 ∧ a3 = b3 := by
  obtain ⟨⟨_, _⟩, ⟨_, _⟩, ⟨_, _⟩, ⟨_, _⟩⟩ := ha
  obtain ⟨⟨_, _⟩, ⟨_, _⟩, ⟨_, _⟩, ⟨_, _⟩⟩ := hb
  unfold val at h; omega
def cmpI (a b : Int) : Int := if a = b then 0 else if a < b then -1 else 1
theorem w110 {a0 a1 a2 a3 b0 b1 b2 b3 : Int} (ha : R4 a0 a1 a2 a3) (hb : R4 b0 b1 b2 b3) : r110 [U a0 a1 a2 a3, U b0 b1 b2 b3] [] = some (.ret (i64 (cmpI (val a0 a1 a2 a3) (val b0 b1 b2 b3))), []) := by
  obtain ⟨_, _, _, _, o, e, hs, ho⟩ := w119 ha hb
  have h := (q110 _ _).trans (T110 r119 a0 a1 a2 a3 b0 b1 b2 b3 _ fin _ e)
  have hs2 := val_lt hs
  have ha2 := val_lt ha
  have hb2 := val_lt hb
  unfold cmpI
  by_cases hc : val a0 a1 a2 a3 = val b0 b1 b2 b3
  · obtain ⟨rfl, rfl, rfl, rfl⟩ := val_inj ha hb hc
    simp only [BEq.rfl, Bool.and_self, cond_true] at h
    rw [if_pos rfl]
    exact h
  · have h2 : (a0 == b0 && (a1 == b1 && (a2 == b2 && (a3 == b3 && true)))) = false := by
      cases h3 : (a0 == b0 && (a1 == b1 && (a2 == b2 && (a3 == b3 && true)))) with
      | false => rfl
      | true =>
        simp only [Bool.and_eq_true, beq_iff_eq] at h3
        obtain ⟨rfl, rfl, rfl, rfl, _⟩ := h3
        exact absurd rfl hc
    rw [h2] at h
    rw [if_neg hc]
    cases o with
    | true =>
      rw [if_pos (by simp only [ov, cond_true] at ho; omega)]
      exact h
    | false =>
      rw [if_neg (by simp only [ov, cond_false] at ho; omega)]
      exact h
theorem w184 (a0 a1 a2 a3 : Int) : ∃ s0 s1 s2 s3, r184 [U a0 a1 a2 a3] [] = some (.ret (U s0 s1 s2 s3), []) ∧ R4 s0 s1 s2 s3 := ⟨_, _, _, _, (q184 _ _).trans (T184 a0 a1 a2 a3 _ fin), r4w _ _ _ _⟩
theorem w185 (a0 a1 a2 a3 b0 b1 b2 b3 : Int) : ∃ s0 s1 s2 s3, r185 [U a0 a1 a2 a3, U b0 b1 b2 b3] [] = some (.ret (U s0 s1 s2 s3), []) ∧ R4 s0 s1 s2 s3 := ⟨_, _, _, _, (q185 _ _).trans (T185 a0 a1 a2 a3 b0 b1 b2 b3 _ fin), r4w _ _ _ _⟩
theorem w186 (a0 a1 a2 a3 b0 b1 b2 b3 : Int) : ∃ s0 s1 s2 s3, r186 [U a0 a1 a2 a3, U b0 b1 b2 b3] [] = some (.ret (U s0 s1 s2 s3), []) ∧ R4 s0 s1 s2 s3 := ⟨_, _, _, _, (q186 _ _).trans (T186 a0 a1 a2 a3 b0 b1 b2 b3 _ fin), r4w _ _ _ _⟩
theorem w189 (a0 a1 a2 a3 b0 b1 b2 b3 : Int) : ∃ s0 s1 s2 s3, r189 [U a0 a1 a2 a3, U b0 b1 b2 b3] [] = some (.ret (U s0 s1 s2 s3), []) ∧ R4 s0 s1 s2 s3 := ⟨_, _, _, _, (q189 _ _).trans (T189 a0 a1 a2 a3 b0 b1 b2 b3 _ fin), r4w _ _ _ _⟩
theorem w191 {a0 a1 a2 a3 n : Int} (ha : R4 a0 a1 a2 a3) (hn0 : 0 ≤ n) : ∃ s0 s1 s2 s3, r191 [U a0 a1 a2 a3, u n] [] = some (.ret (U s0 s1 s2 s3), []) ∧ R4 s0 s1 s2 s3 := by
  have hh := (q191 _ _).trans (T191 h191_0 a0 a1 a2 a3 n _ fin _ rfl)
  obtain ⟨g0, g1, g2, g3⟩ := ha
  by_cases hn : 256 ≤ n
  · rw [show ile 256 n = true by simp [ile_eq, hn]] at hh
    exact ⟨_, _, _, _, hh, r4_0⟩
  · have hn' : n < 256 := by omega
    replace hn : ile 256 n = false := by simp [ile_eq]; omega
    have e0 : n.tdiv 64 = n / 64 := Int.tdiv_eq_ediv_of_nonneg hn0
    have e1 : n.tmod 64 = n % 64 := Int.tmod_eq_emod_of_nonneg hn0
    have c1 : (0 ≤ n.tmod 64) = True := by rw [e1]; simp; omega
    have c2 : (0 ≤ IntKind.u64.wrap (63 - n.tmod 64)) = True := by simp [(r64w _).1]
    have e : IntKind.i64.wrap (IntKind.u64.wrap (n.tdiv 64)) = n / 64 := by rw [e0, IntWalk.u64_in _ (by omega), IntWalk.i64_in _ (by omega)]
    have hq : n / 64 = 0 ∨ n / 64 = 1 ∨ n / 64 = 2 ∨ n / 64 = 3 := by omega
    rcases hq with h | h | h | h <;> rw [h] at e
    · clear h
      have h0 := (q191_0 _ _ _).trans (T191_0q0 a0 a1 a2 a3 (n.tmod 64) _ finB)
      simp only [c1, c2, decide_true, cond_true] at h0
      rw [e, h0, hn] at hh
      exact ⟨_, _, _, _, hh, ⟨by first | exact r64w _ | exact r64_0 | exact r64s ‹_› _, by first | exact r64w _ | exact r64_0 | exact r64s ‹_› _, by first | exact r64w _ | exact r64_0 | exact r64s ‹_› _, by first | exact r64w _ | exact r64_0 | exact r64s ‹_› _⟩⟩
    · clear h
      have h0 := (q191_0 _ _ _).trans (T191_0q1 a0 a1 a2 a3 (n.tmod 64) _ finB)
      simp only [c1, c2, decide_true, cond_true] at h0
      rw [e, h0, hn] at hh
      exact ⟨_, _, _, _, hh, ⟨by first | exact r64w _ | exact r64_0 | exact r64s ‹_› _, by first | exact r64w _ | exact r64_0 | exact r64s ‹_› _, by first | exact r64w _ | exact r64_0 | exact r64s ‹_› _, by first | exact r64w _ | exact r64_0 | exact r64s ‹_› _⟩⟩
    · clear h
      have h0 := (q191_0 _ _ _).trans (T191_0q2 a0 a1 a2 a3 (n.tmod 64) _ finB)
      simp only [c1, c2, decide_true, cond_true] at h0
      rw [e, h0, hn] at hh
      exact ⟨_, _, _, _, hh, ⟨by first | exact r64w _ | exact r64_0 | exact r64s ‹_› _, by first | exact r64w _ | exact r64_0 | exact r64s ‹_› _, by first | exact r64w _ | exact r64_0 | exact r64s ‹_› _, by first | exact r64w _ | exact r64_0 | exact r64s ‹_› _⟩⟩
    · clear h
      have h0 := (q191_0 _ _ _).trans (T191_0q3 a0 a1 a2 a3 (n.tmod 64) _ finB)
      simp only [c1, decide_true, cond_true] at h0
      rw [e, h0, hn] at hh
      exact ⟨_, _, _, _, hh, ⟨by first | exact r64w _ | exact r64_0 | exact r64s ‹_› _, by first | exact r64w _ | exact r64_0 | exact r64s ‹_› _, by first | exact r64w _ | exact r64_0 | exact r64s ‹_› _, by first | exact r64w _ | exact r64_0 | exact r64s ‹_› _⟩⟩
theorem w183 {a0 a1 a2 a3 n : Int} (ha : R4 a0 a1 a2 a3) (hn0 : 0 ≤ n) : ∃ s0 s1 s2 s3, r183 [U a0 a1 a2 a3, u n] [] = some (.ret (U s0 s1 s2 s3), []) ∧ R4 s0 s1 s2 s3 := by
  have hh := (q183 _ _).trans (T183 h183_0 a0 a1 a2 a3 n _ fin _ rfl)
  obtain ⟨g0, g1, g2, g3⟩ := ha
  by_cases hn : 256 ≤ n
  · rw [show ile 256 n = true by simp [ile_eq, hn]] at hh
    exact ⟨_, _, _, _, hh, r4_0⟩
  · have hn' : n < 256 := by omega
    replace hn : ile 256 n = false := by simp [ile_eq]; omega
    have e0 : n.tdiv 64 = n / 64 := Int.tdiv_eq_ediv_of_nonneg hn0
    have e1 : n.tmod 64 = n % 64 := Int.tmod_eq_emod_of_nonneg hn0
    have c1 : (0 ≤ n.tmod 64) = True := by rw [e1]; simp; omega
    have c2 : (0 ≤ IntKind.u64.wrap (63 - n.tmod 64)) = True := by simp [(r64w _).1]
    have e : IntKind.i64.wrap (IntKind.u64.wrap (n.tdiv 64)) = n / 64 := by rw [e0, IntWalk.u64_in _ (by omega), IntWalk.i64_in _ (by omega)]
    have hq : n / 64 = 0 ∨ n / 64 = 1 ∨ n / 64 = 2 ∨ n / 64 = 3 := by omega
    rcases hq with h | h | h | h <;> rw [h] at e
    · clear h
      have h0 := (q183_0 _ _ _).trans (T183_0q0 a0 a1 a2 a3 (n.tmod 64) _ finB)
      simp only [c1, c2, decide_true, cond_true] at h0
      rw [e, show IntKind.i64.wrap (4 - 0) = 4 from rfl, h0, hn] at hh
      exact ⟨_, _, _, _, hh, ⟨by first | exact r64w _ | exact r64_0 | exact r64s ‹_› _, by first | exact r64w _ | exact r64_0 | exact r64s ‹_› _, by first | exact r64w _ | exact r64_0 | exact r64s ‹_› _, by first | exact r64w _ | exact r64_0 | exact r64s ‹_› _⟩⟩
    · clear h
      have h0 := (q183_0 _ _ _).trans (T183_0q1 a0 a1 a2 a3 (n.tmod 64) _ finB)
      simp only [c1, c2, decide_true, cond_true] at h0
      rw [e, show IntKind.i64.wrap (4 - 1) = 3 from rfl, h0, hn] at hh
      exact ⟨_, _, _, _, hh, ⟨by first | exact r64w _ | exact r64_0 | exact r64s ‹_› _, by first | exact r64w _ | exact r64_0 | exact r64s ‹_› _, by first | exact r64w _ | exact r64_0 | exact r64s ‹_› _, by first | exact r64w _ | exact r64_0 | exact r64s ‹_› _⟩⟩
    · clear h
      have h0 := (q183_0 _ _ _).trans (T183_0q2 a0 a1 a2 a3 (n.tmod 64) _ finB)
      simp only [c1, c2, decide_true, cond_true] at h0
      rw [e, show IntKind.i64.wrap (4 - 2) = 2 from rfl, h0, hn] at hh
      exact ⟨_, _, _, _, hh, ⟨by first | exact r64w _ | exact r64_0 | exact r64s ‹_› _, by first | exact r64w _ | exact r64_0 | exact r64s ‹_› _, by first | exact r64w _ | exact r64_0 | exact r64s ‹_› _, by first | exact r64w _ | exact r64_0 | exact r64s ‹_› _⟩⟩
    · clear h
      have h0 := (q183_0 _ _ _).trans (T183_0q3 a0 a1 a2 a3 (n.tmod 64) _ finB)
      simp only [c1, decide_true, cond_true] at h0
      rw [e, show IntKind.i64.wrap (4 - 3) = 1 from rfl, h0, hn] at hh
      exact ⟨_, _, _, _, hh, ⟨by first | exact r64w _ | exact r64_0 | exact r64s ‹_› _, by first | exact r64w _ | exact r64_0 | exact r64s ‹_› _, by first | exact r64w _ | exact r64_0 | exact r64s ‹_› _, by first | exact r64w _ | exact r64_0 | exact r64s ‹_› _⟩⟩
theorem len8_le (i : Nat) : (len8.data.toList.getD i 0).toNat ≤ 8 := by
  have h : (len8.data.toList.all fun b => Nat.ble b.toNat 8) = true := by kernel_rfl
  rw [List.getD_eq_getElem?_getD]
  cases hi : len8.data.toList[i]? with
  | none => simp
  | some b => exact Nat.le_of_ble_eq_true (List.all_eq_true.1 h b (List.mem_of_getElem? hi))
theorem u8_ok (x : Int) : (decide (0 ≤ IntKind.u8.wrap x) && decide (IntKind.u8.wrap x < (len8.size : Int))) = true := by
  have : len8.size = 256 := by kernel_rfl
  rw [this, IntKind.wrap_u8]; simp; omega
theorem w151 {n : Int} : ∃ r, r151 [u n] [] = some (.ret (i64 r), []) ∧ 0 ≤ r ∧ r ≤ 64 := by
  have h := (q151 _ _).trans (T151 n _ fin)
  simp only [u8_ok, cond_true] at h
  have fin' : ∀ (c : Int) (i : Nat), 0 ≤ c → c ≤ 56 → 0 ≤ IntKind.i64.wrap (c + IntKind.i64.wrap ((len8.data.toList.getD i 0).toNat : Int)) ∧ IntKind.i64.wrap (c + IntKind.i64.wrap ((len8.data.toList.getD i 0).toNat : Int)) ≤ 64 := fun c i h1 h2 => by
    have := len8_le i
    rw [IntWalk.i64_in ((len8.data.toList.getD i 0).toNat : Int) (by omega), IntWalk.i64_in _ (by omega)]; omega
  have sp : ∀ (b : Bool) (x y : RE), r151 [u n] [] = (bif b then x else y) → r151 [u n] [] = x ∨ r151 [u n] [] = y := fun b x y h => by cases b; exact .inr h; exact .inl h
  have leaf : ∀ (c : Int) (i : Nat), 0 ≤ c → c ≤ 56 → r151 [u n] [] = some (.ret (i64 (IntKind.i64.wrap (c + IntKind.i64.wrap ((len8.data.toList.getD i 0).toNat : Int)))), []) → ∃ r, r151 [u n] [] = some (.ret (i64 r), []) ∧ 0 ≤ r ∧ r ≤ 64 := fun c i h1 h2 h => ⟨_, h, fin' c i h1 h2⟩
  rcases sp _ _ _ h with h | h <;> rcases sp _ _ _ h with h | h <;> rcases sp _ _ _ h with h | h <;> exact leaf _ _ (by decide) (by decide) h
theorem w114 {a0 a1 a2 a3 : Int} : ∃ r, r114 [U a0 a1 a2 a3] [] = some (.ret (i64 r), []) ∧ 0 ≤ r ∧ r ≤ 256 := by
  obtain ⟨n0, e0, l0, m0⟩ := w151 (n := a0)
  obtain ⟨n1, e1, l1, m1⟩ := w151 (n := a1)
  obtain ⟨n2, e2, l2, m2⟩ := w151 (n := a2)
  obtain ⟨n3, e3, l3, m3⟩ := w151 (n := a3)
  have h := (q114 _ _).trans (T114 r151 a0 a1 a2 a3 _ fin _ e3 _ e2 _ e1 _ e0)
  have sp : ∀ (b : Bool) (x y : RE), r114 [U a0 a1 a2 a3] [] = (bif b then x else y) → r114 [U a0 a1 a2 a3] [] = x ∨ r114 [U a0 a1 a2 a3] [] = y := fun b x y h => by cases b; exact .inr h; exact .inl h
  have leaf : ∀ (c r : Int), 0 ≤ c → c ≤ 192 → 0 ≤ r → r ≤ 64 → r114 [U a0 a1 a2 a3] [] = some (.ret (i64 (IntKind.i64.wrap (c + r))), []) → ∃ r, r114 [U a0 a1 a2 a3] [] = some (.ret (i64 r), []) ∧ 0 ≤ r ∧ r ≤ 256 := fun c r h1 h2 h3 h4 h => ⟨_, h, by rw [IntWalk.i64_in _ (by omega)]; omega⟩
  rcases sp _ _ _ h with h | h
  · rcases sp _ _ _ h with h | h
    · rcases sp _ _ _ h with h | h
      · rcases sp _ _ _ h with h | h
        · exact ⟨0, h, by omega, by omega⟩
        · exact leaf _ n0 (by decide) (by decide) l0 m0 h
      · exact leaf _ n1 (by decide) (by decide) l1 m1 h
    · exact leaf _ n2 (by decide) (by decide) l2 m2 h
  · exact leaf _ n3 (by decide) (by decide) l3 m3 h
theorem w82 (a0 a1 a2 a3 : Int) : ∃ s, r82 [U a0 a1 a2 a3] [] = some (.ret (st s), []) ∧ s.size = 32 := ⟨_, (q82 _ _).trans (T82 a0 a1 a2 a3 _ fin), rfl⟩
end Go.Proofs.Vm
end
section
namespace Go.Proofs
open Go.Shelf
def Tryz.lays105_ren : Go.Shelf.Ren := ⟨fun | 105 => 137 | 212 => 203 | 99 => 115 | 165 => 204 | 166 => 134 | 170 => 136 | 169 => 138 | 263 => 256 | 264 => 236 | 206 => 169 | 240 => 202 | 241 => 257 | 276 => 255 | 277 => 265 | n => n, fun | 9 => 9 | 3 => 3 | 4 => 4 | 20 => 20 | 0 => 0 | 46 => 84 | 109 => 194 | 5 => 5 | 72 => 147 | 76 => 150 | 51 => 237 | 146 => 238 | 53 => 35 | 148 => 120 | 70 => 145 | 37 => 69 | 75 => 149 | 127 => 196 | 164 => 235 | 80 => 154 | n => n, fun | n => n⟩
theorem Tryz.lays105 : Go.Proofs.Lays.n105 Tryz.prog Tryz.lays105_ren := {
  mixed := by kernel_rfl
  f99 := Tryz.func115.trans (congrArg some (by kernel_rfl))
  f105 := Tryz.func137.trans (congrArg some (by kernel_rfl))
  f165 := Tryz.func204.trans (congrArg some (by kernel_rfl))
  f166 := Tryz.func134.trans (congrArg some (by kernel_rfl))
  f169 := Tryz.func138.trans (congrArg some (by kernel_rfl))
  f170 := Tryz.func136.trans (congrArg some (by kernel_rfl))
  f206 := Tryz.func169.trans (congrArg some (by kernel_rfl))
  f212 := Tryz.func203.trans (congrArg some (by kernel_rfl))
  f240 := Tryz.func202.trans (congrArg some (by kernel_rfl))
  f241 := Tryz.func257.trans (congrArg some (by kernel_rfl))
  f263 := Tryz.func256.trans (congrArg some (by kernel_rfl))
  f264 := Tryz.func236.trans (congrArg some (by kernel_rfl))
  f276 := Tryz.func255.trans (congrArg some (by kernel_rfl))
  f277 := Tryz.func265.trans (congrArg some (by kernel_rfl))
  t0 := Tryz.underlying0
  a0 := Tryz.isAgg0
  z0 := Tryz.sizeOf0
  v0 := Tryz.zeroValue0
  t3 := Tryz.underlying3
  a3 := Tryz.isAgg3
  z3 := Tryz.sizeOf3
  v3 := Tryz.zeroValue3
  t4 := Tryz.underlying4
  a4 := Tryz.isAgg4
  z4 := Tryz.sizeOf4
  v4 := Tryz.zeroValue4
  t5 := Tryz.underlying5
  a5 := Tryz.isAgg5
  z5 := Tryz.sizeOf5
  v5 := Tryz.zeroValue5
  t9 := Tryz.underlying9
  a9 := Tryz.isAgg9
  z9 := Tryz.sizeOf9
  v9 := Tryz.zeroValue9
  t20 := Tryz.underlying20
  a20 := Tryz.isAgg20
  z20 := Tryz.sizeOf20
  v20 := Tryz.zeroValue20
  t37 := Tryz.underlying69
  a37 := Tryz.isAgg69
  z37 := Tryz.sizeOf69
  v37 := Tryz.zeroValue69
  t46 := Tryz.underlying84
  a46 := Tryz.isAgg84
  z46 := Tryz.sizeOf84
  v46 := Tryz.zeroValue84
  t51 := Tryz.underlying237
  a51 := Tryz.isAgg237
  z51 := Tryz.sizeOf237
  v51 := Tryz.zeroValue237
  t53 := Tryz.underlying35
  a53 := Tryz.isAgg35
  z53 := Tryz.sizeOf35
  v53 := Tryz.zeroValue35
  t70 := Tryz.underlying145
  a70 := Tryz.isAgg145
  z70 := Tryz.sizeOf145
  v70 := Tryz.zeroValue145
  t72 := Tryz.underlying147
  a72 := Tryz.isAgg147
  z72 := Tryz.sizeOf147
  v72 := Tryz.zeroValue147
  t75 := Tryz.underlying149
  a75 := Tryz.isAgg149
  z75 := Tryz.sizeOf149
  v75 := Tryz.zeroValue149
  t76 := Tryz.underlying150
  a76 := Tryz.isAgg150
  z76 := Tryz.sizeOf150
  v76 := Tryz.zeroValue150
  t109 := Tryz.underlying194
  a109 := Tryz.isAgg194
  z109 := Tryz.sizeOf194
  v109 := Tryz.zeroValue194
  t127 := Tryz.underlying196
  a127 := Tryz.isAgg196
  z127 := Tryz.sizeOf196
  v127 := Tryz.zeroValue196
  t146 := Tryz.underlying238
  a146 := Tryz.isAgg238
  z146 := Tryz.sizeOf238
  v146 := Tryz.zeroValue238
  t148 := Tryz.underlying120
  a148 := Tryz.isAgg120
  z148 := Tryz.sizeOf120
  v148 := Tryz.zeroValue120
  t164 := Tryz.underlying235
  a164 := Tryz.isAgg235
  z164 := Tryz.sizeOf235
  v164 := Tryz.zeroValue235 }
theorem Tryz.Builder_Extra_105 : Builder.Extra Tryz.prog Tryz.lays105_ren := {
  sizeBuilder := by kernel_rfl
  liesBuilder := by kernel_rfl
  t5 := Tryz.underlying5
  a5 := Tryz.isAgg5
  z5 := Tryz.sizeOf5
  v5 := Tryz.zeroValue5
  infoByte := by kernel_rfl
  cellsByte := by kernel_rfl
  sizeByte := by kernel_rfl
  neB5 := by decide }
open Go.RowKit Go.Lib in
theorem Tryz.strings_Repeat_main (s : ByteArray) (c : Nat) (w : World) (hc2 : 2 ≤ c) (hc : c ≤ 9223372036854775807) (hlen : s.size * c ≤ 140737488355328) (h0 : 0 < s.size) :
    Calls Tryz.prog 137 #[.string s, .int .i64 c] w fun e w' => e = .returned (.string ⟨(Lib.repeatL s.data.toList c).toArray⟩) ∧ Below w.heap.size w w' := Any.strings_Repeat_main Tryz.lays105 Tryz.Builder_Extra_105 s c w hc2 hc hlen h0
open Go.RowKit Go.Lib in
theorem Tryz.strings_Repeat_zero (s : ByteArray) (w : World) :
    Calls Tryz.prog 137 #[.string s, .int .i64 0] w fun e w' => e = .returned (.string ⟨#[]⟩) ∧ w' = w := Any.strings_Repeat_zero Tryz.lays105 s w
open Go.RowKit Go.Lib in
theorem Tryz.strings_Repeat_one (s : ByteArray) (w : World) :
    Calls Tryz.prog 137 #[.string s, .int .i64 1] w fun e w' => e = .returned (.string s) ∧ w' = w := Any.strings_Repeat_one Tryz.lays105 s w
open Go.RowKit Go.Lib in
theorem Tryz.strings_Repeat_empty (s : ByteArray) (c : Nat) (w : World) (hc2 : 2 ≤ c) (hc : c ≤ 9223372036854775807) (h0 : s.size = 0) :
    Calls Tryz.prog 137 #[.string s, .int .i64 c] w fun e w' => e = .returned (.string ⟨#[]⟩) ∧ w' = w := Any.strings_Repeat_empty Tryz.lays105 s c w hc2 hc h0
open Go.RowKit Go.Lib in
theorem Tryz.strings_Repeat_negative (s : ByteArray) (c : Int) (w : World) (hc : c < 0) :
    Calls Tryz.prog 137 #[.string s, .int .i64 c] w fun e w' => e = .panicked [{ v := repeatPanic Tryz.lays105_ren "strings: negative Repeat count", recovered := false }] ∧ w' = w := Any.strings_Repeat_negative Tryz.lays105 s c w hc
open Go.RowKit Go.Lib in
theorem Tryz.strings_Repeat_overflow (s : ByteArray) (c : Nat) (w : World) (hc : c ≤ 9223372036854775807) (hs : s.size ≤ 9223372036854775807) (hbig : 9223372036854775807 < s.size * c) :
    Calls Tryz.prog 137 #[.string s, .int .i64 c] w fun e w' => e = .panicked [{ v := repeatPanic Tryz.lays105_ren "strings: Repeat output length overflow", recovered := false }] ∧ w' = w := Any.strings_Repeat_overflow Tryz.lays105 s c w hc hs hbig
open Go.RowKit Go.Lib in
theorem Tryz.strings_Repeat (s : ByteArray) (c : Nat) (w : World) (hc : c ≤ 9223372036854775807) (hlen : s.size * c ≤ 140737488355328) :
    Calls Tryz.prog 137 #[.string s, .int .i64 c] w fun e w' => e = .returned (.string ⟨(Lib.repeatL s.data.toList c).toArray⟩) ∧ Below w.heap.size w w' := Any.strings_Repeat Tryz.lays105 Tryz.Builder_Extra_105 s c w hc hlen
def Tryz.laysClone_ren : Go.Shelf.Ren := ⟨fun | 41 => 71 | n => n, fun | 22 => 24 | 23 => 55 | 4 => 4 | n => n, fun | n => n⟩
theorem Tryz.laysClone : Go.Proofs.SlLaysE0.n41 Tryz.prog Tryz.laysClone_ren := {
  mixed := by kernel_rfl
  f41 := ⟨Tryz.f71.name, by decide, Tryz.func71.trans (congrArg some (by kernel_rfl))⟩
  t4 := Tryz.underlying4
  a4 := Tryz.isAgg4
  z4 := Tryz.sizeOf4
  v4 := Tryz.zeroValue4
  t22 := Tryz.underlying24
  a22 := Tryz.isAgg24
  z22 := Tryz.sizeOf24
  v22 := Tryz.zeroValue24 }
end Go.Proofs
end
section
namespace Go.Proofs.Vm
open Go Go.Abs
theorem Keep.of_below {L : Nat → Prop} {w w' : World} (h : Go.RowKit.Below w.heap.size w w') : Keep L w w' := ⟨h.os, h.tape, h.output, h.size, fun b hb _ => h.block b hb⟩
theorem post_below {φ : Emb} {os : List AObj} {w w' : World} {x : AV} {u : Value} (hr : Rel φ (Abs.look os) w) (htop : ∀ i, os.length ≤ i → φ i = none) (hb : Go.RowKit.Below w.heap.size w w')
    (hv : VR φ (Lv φ (Abs.look os)) w' x u) : Post φ (Abs.look os) os.length w x os u w' φ := by
  refine ⟨Nat.le_refl _, rfl, fun _ _ => rfl, htop, Keep.of_below hb, ?_, fun _ h => .inl h, fun b hb' => hb.block b (hr.old b hb'), hv⟩
  refine hr.upd (fun _ => False) φ.le_refl (Keep.of_below hb) (fun _ _ => ⟨rfl, rfl⟩) (fun i s _ hl e hreal => hb.block _ ((hr.obj i).lt hl e hreal)) (fun _ _ h => h.elim) (fun _ _ _ _ h => h.elim) (fun _ h => h.elim)
theorem vals2 {φ : Emb} {L : Nat → Prop} {w : World} {x y : Value} {vals : Array Value} (h : VRs φ L w [.v x, .v y] vals.toList) : vals = #[x, y] := by
  simp only [VRs, VR] at h
  obtain ⟨_, _, e, rfl, _, _, rfl, rfl, rfl⟩ := h
  exact Array.ext' e
theorem okRuns {f : FuncId} {r : RF} (ts : List Alt) (h : ∀ args os e os', r args os = some (e, os') → ∀ (φ : Emb) (w : World) (vals : Array Value), Rel φ (Abs.look os) w → (∀ i, os.length ≤ i → φ i = none) →
    VRs φ (Lv φ (Abs.look os)) w args vals.toList → Does P f vals w fun en w' => ∃ φ', endR (fun x u => Post φ (Abs.look os) os.length w x os' u w' φ') e en) : SpecOK P f (shaped ts r) := by
  refine ⟨fun args os => ?_, fun args os e os' hs => ?_⟩
  · rcases endSpec_cases (r args os) ts with ⟨e, os', _, h2⟩ | h2
    · exact .inl ⟨e, os', h2⟩
    · exact .inr h2
  · rcases endSpec_cases (r args os) ts with ⟨e0, os0, h1, h2⟩ | h2
    · obtain ⟨rfl, rfl⟩ := some_of_det (f := fun X (k : AEnd → List AObj → Option X) => endSpec (r args os) k ts) h2 hs
      exact h args os _ _ h1
    · exact (none_of_det hs h2).elim
theorem Does.text {f : FuncId} {fn : Func} {vals : Array Value} {w : World} {R : Ending → World → Prop} (hf : P.funcs[f]? = some fn) {c : Code} (hb : fn.body = some c) (hnm : (fn.name == "runtime.NumGoroutine") = false) (h : Calls P f vals w R) : Does P f vals w R :=
  .inr ⟨by
    unfold callFunc
    rw [Sem.run_bind, run_program]
    simp only [Result.andThen_ok, hf, hnm, hb, Option.isNone_some, Bool.false_eq_true, if_false]
    rfl, h⟩
def r137 : RF := fun args os => match args with
  | [.v (.string s), .v (.int .i64 n)] => bif ile 0 n && Nat.ble (s.size * n.toNat) 140737488355328 && Nat.ble n.toNat 9223372036854775807 then some (.ret (st ⟨⟨Lib.repeatL s.data.toList n.toNat⟩⟩), os) else none
  | _ => none
def a137 : Alt := ⟨false, shS, []⟩
def A137 : List Alt := [a137]
theorem ok137 : SpecOK P 137 (shaped A137 r137) := okRuns _ fun args os e os' h φ w vals hr htop hv => by
  unfold r137 at h
  split at h
  · rename_i s n
    cases hb : ile 0 n && Nat.ble (s.size * n.toNat) 140737488355328 && Nat.ble n.toNat 9223372036854775807 with
    | false => rw [hb] at h; cases h
    | true =>
      rw [hb] at h
      simp only [cond_true, Option.some.injEq, Prod.mk.injEq] at h
      obtain ⟨rfl, rfl⟩ := h
      simp only [ile_eq, Bool.and_eq_true, decide_eq_true_eq, Nat.ble_eq] at hb
      obtain ⟨⟨h1, h2⟩, h3⟩ := hb
      rw [vals2 hv]
      obtain ⟨c, rfl⟩ := Int.eq_ofNat_of_zero_le h1
      simp only [Int.toNat_natCast] at h2 h3 ⊢
      refine Does.text Tryz.func137 (c := cod Tryz.f137) (by kernel_rfl) (by kernel_rfl) ((Tryz.strings_Repeat s c w h3 h2).mono fun en w' ⟨he, hw⟩ => ⟨φ, ?_⟩)
      subst he
      exact post_below hr htop hw rfl
  · cases h
open Go.RowKit in
set_option maxHeartbeats 2000000 in
set_option maxRecDepth 100000 in
theorem clone71 (a : Addr) (n c : Nat) (news : List Value) (w : World) (i0 : TypeInfo) (z : Value) (hi : P.info? 55 = some i0) (hz0 : i0.zero = some z) (hz1 : i0.size = 4) (hz2 : i0.bytes = 32) (hzs : z.cells.size = 4) (hl : news.length = n * 4) (hn : n ≤ maxLen) (hbig : n * 32 ≤ 140737488355328)
    (hc : ∀ j u, news[j]? = some u → w.cell? (a.add j) = some u) (h1 : ∀ u ∈ news, u.oneCell' = true) :
    Calls P 71 #[.slice (some a) n c] w fun e w' => ∃ v', e = .returned v' ∧ w'.ownsRow w.heap.size 55 4 v' n news ∧ v' ≠ .slice none 0 0 ∧ Below w.heap.size w w' := by
  have mixed : P.follows .mixedOrders = true := by kernel_rfl
  have t22 := Tryz.underlying24
  have q22 : ∀ (w : World) (a : Option Addr) (n c n' c' : Nat), (binOp .eql 24 (.slice a n c) (.slice none n' c')).run P w = .ok (.bool a.isNone) w := fun w a n c n' c' => Lib.run_eql_slice_nil w _ _ a n c n' c' Tryz.underlying24
  have u22 : ∀ w, Sem.run P (underlying 24) w = .ok (TypeDesc.slice 55) w := run_underlying t22
  have A : Aside (∀ j u, news[j]? = some u → w.cell? (a.add j) = some u) := hc
  clear hc
  go_enter Tryz.func71, Tryz.ntmps71
  go_wp2_with (at_builtin; refine wpList_append_own _ rfl _ _ 24 rfl w.heap.size 55 i0 z 4 32 t22 hi hz0 hz1 hz2 hzs (by decide) _ _ _ rfl (World.ownsRow_made w #[] 0 (Nat.le_refl _) (Nat.zero_le _) (by simp)) a n c news rfl ?qc1 ?qc2 ?qc3 ?qc4 ?qc5 ?qc6 ?_)
  case qc1 => exact hl
  case qc2 =>
    intro j u hj
    exact Lib.cell?_alloc_some _ (A.out j u hj)
  case qc3 => exact h1
  case qc4 => rw [Nat.zero_add]; exact hn
  case qc5 => rw [Nat.zero_add]; exact hbig
  case qc6 => simp
  intro v' w1 hown hgrow hnil
  go_wp2
  go_ret
  refine ⟨v', rfl, by simpa using hown, ?_, ?_⟩
  · exact hnil
  · exact ((Below.refl _ w).alloc (Nat.le_refl _) _).grown hgrow (by simp) (by intro k hk; simp [Value.ownBlock] at hk; omega)
theorem VRe_vals {φ : Emb} {L : Nat → Prop} {w : World} {sz : Nat} {es : List (List AV)} {b o : Nat} (h : VRe φ L w sz es b o) :
    ∃ us : List Value, VRs φ L w es.flatten us ∧ us.length = es.length * sz ∧ ∀ j x, us[j]? = some x → w.cell? ⟨b, o + j, none⟩ = some x ∧ oneV x = true := by
  have hp := VRe_pure' h
  have hl := flat_length hp
  have hc := VRe_flat h
  have key : ∀ (cs : List AV) (o : Nat), VRc φ L w cs b o → ∃ us : List Value, VRs φ L w cs us ∧ ∀ j x, us[j]? = some x → w.cell? ⟨b, o + j, none⟩ = some x ∧ oneV x = true := by
    intro cs
    induction cs with
    | nil => intro o _; exact ⟨[], by simp [VRs], by simp⟩
    | cons c cs ih =>
      intro o h
      simp only [VRc] at h
      obtain ⟨⟨x, h1, h2, h3⟩, h4⟩ := h
      obtain ⟨us, h5, h6⟩ := ih (o + 1) h4
      refine ⟨x :: us, by simp only [VRs]; exact ⟨x, us, rfl, h3, h5⟩, fun j y hj => ?_⟩
      cases j with
      | zero => simp at hj; subst hj; exact ⟨h1, h2⟩
      | succ j =>
        simp at hj
        have := h6 j y hj
        rw [show o + (j + 1) = o + 1 + j by omega]
        exact this
  obtain ⟨us, h1, h2⟩ := key _ o hc
  exact ⟨us, h1, by rw [VRs_length h1, hl], h2⟩
theorem VR.pure2 {φ φ' : Emb} {L L' : Nat → Prop} {w w' : World} (hk : Keep L w w') (hl : ∀ b, b < w.heap.size → L' b → L b) (_ : ∀ b, L b → b < w.heap.size) (x : AV) (u : Value) (hp : pureA x = true) (h : VR φ L w x u) : VR φ' L' w' x u := by
  have h1 : VR φ' (fun b => L b ∧ b < w.heap.size) w x u := VR.pure (fun _ h => h.1) x u hp h
  exact VR.mono' (fun _ _ h => h) ⟨hk.os, hk.tape, hk.output, hk.size, fun b hb hn => hk.block b hb fun h => hn ⟨h, hb⟩⟩ (fun b h => by
    rcases Nat.lt_or_ge b w.heap.size with h' | h'
    · exact .inl ⟨hl b h' h, h'⟩
    · exact .inr h') x u h1
def r71 : RF := fun args os => match args, os with
  | [.sl 4 es], [] => bif Nat.ble es.length 1048576 then some (.ret (.wref 0), [.row 4 es]) else none
  | [.v (.slice none 0 0)], [] => some (.ret (.wref 0), [.row 4 []])
  | _, _ => none
def a71 : Alt := ⟨false, .wref 0, [.row 4 [.int .u64, .int .u64, .int .u64, .int .u64]]⟩
def A71 : List Alt := [a71]
theorem post71 {φ : Emb} {w w' : World} {es : List (List AV)} {news : List Value} {n : Nat} {v' : Value} (hr : Rel φ (Abs.look []) w) (htop : ∀ i, φ i = none) (hn : es.length = n) (hp : ∀ e, e ∈ es → pureL e = true ∧ e.length = 4)
    (hv : VRs φ (Lv φ (Abs.look [])) w es.flatten news) (h1 : ∀ x ∈ news, oneV x = true) (ho : w'.ownsRow w.heap.size 55 4 v' n news) (hb : Go.RowKit.Below w.heap.size w w') :
    ∃ φ', Post φ (Abs.look []) 0 w (.wref 0) [.row 4 es] v' w' φ' := by
  have hdead : ∀ i, Abs.look [] i = AObj.dead := fun i => rfl
  have hone : ∀ i, i ≠ 0 → Abs.look [AObj.row 4 es] i = AObj.dead := fun i hi => by
    cases i with
    | zero => exact absurd rfl hi
    | succ i => rfl
  have hL0 : ∀ b, Lv φ (Abs.look []) b → φ.F b := by
    rintro b (h | ⟨i, s, h, _⟩)
    · exact h
    · cases h
  have hlt : ∀ b, Lv φ (Abs.look []) b → b < w.heap.size := fun b h => hr.old b (hL0 b h)
  obtain ⟨hl, hcase⟩ := ho
  obtain ⟨s, h2, hs1, hs2, hs3, hs4⟩ : ∃ s : Slot, (s.sz = 4 ∧ s.n = n ∧ (s.real = true → w.heap.size ≤ s.b)) ∧ (∀ φ' : Emb, φ' 0 = some s → VR φ' (Lv φ' (Abs.look [AObj.row 4 es])) w' (.wref 0) v') ∧
      (n = 0 ∧ s.real = false ∨ s.real = true ∧ Own w' s ∧ s.o + es.length * 4 ≤ s.room ∧ ∀ φ' : Emb, (∀ b, b < w.heap.size → Lv φ' (Abs.look [AObj.row 4 es]) b → Lv φ (Abs.look []) b) → VRe φ' (Lv φ' (Abs.look [AObj.row 4 es])) w' 4 es s.b s.o) ∧ True ∧ True := by
    rcases hcase with ⟨rfl, h0⟩ | ⟨g, cap, cur, rfl, hg, hh, hcap, _, hsz, htake⟩
    · exact ⟨⟨0, 0, 4, n, 0, false⟩, ⟨rfl, rfl, fun h => by cases h⟩, fun φ' e => by simp only [VR]; exact ⟨_, e, .inr ⟨h0, none, rfl⟩⟩, .inl ⟨h0, rfl⟩, trivial, trivial⟩
    · refine ⟨⟨g, 0, 4, n, cap * 4, true⟩, ⟨rfl, rfl, fun _ => hg⟩, fun φ' e => by simp only [VR]; exact ⟨_, e, .inl ⟨rfl, cap, rfl, hcap, by simp⟩⟩, .inr ⟨rfl, ⟨cur, 55, (0, 0), hh, hsz, fun k _ h => by omega⟩, ?_, ?_⟩, trivial, trivial⟩
      · show 0 + es.length * 4 ≤ cap * 4
        omega
      · intro φ' hlow
        show VRe φ' _ w' 4 es g 0
        rw [VRe_iff]
        intro i e he
        have hmem := hp e (List.mem_of_getElem? he)
        refine ⟨hmem.2, hmem.1, ?_⟩
        rw [VRc_block hh]
        intro j y hy
        have hj : j < 4 := by
          rw [← hmem.2]
          rcases Nat.lt_or_ge j e.length with h' | h'
          · exact h'
          · rw [List.getElem?_eq_none h'] at hy; cases hy
        obtain ⟨x, hx, hvx⟩ := VRs_get? hv (flat_get hj hy es i hp he)
        refine ⟨x, ?_, h1 x (List.mem_of_getElem? hx), ?_⟩
        · rw [← htake, List.getElem?_take] at hx
          split at hx
          · simpa using hx
          · cases hx
        · have hpy : pureA y = true := pureL_getElem? hmem.1 hy
          have hk : Keep (Lv φ (Abs.look [])) w w' := Keep.of_below hb
          exact VR.pure2 hk hlow hlt y x hpy hvx
  obtain ⟨hsz, hsn, hsb⟩ := h2
  have hφ0 : φ 0 = none := htop 0
  have hle := setS_le hφ0 s
  have hlv : ∀ b, Lv (setS φ 0 s) (Abs.look [AObj.row 4 es]) b → Lv φ (Abs.look []) b ∨ w.heap.size ≤ b := by
    rintro b (hF | ⟨i, t, l1, l2, l3, rfl⟩)
    · exact .inl (.inl hF)
    · by_cases hi : i = 0
      · subst hi; rw [setS_same] at l2; cases l2; exact .inr (hsb l3)
      · rw [hone i hi] at l1; cases l1
  have hlow : ∀ b, b < w.heap.size → Lv (setS φ 0 s) (Abs.look [AObj.row 4 es]) b → Lv φ (Abs.look []) b := fun b hb h => (hlv b h).resolve_right (by omega)
  refine ⟨setS φ 0 s, by simp, rfl, fun i hi => by omega, fun i hi => ?_, Keep.of_below hb, ?_, hlv, fun b hF => hb.block b (hr.old b hF), hs1 _ (setS_same _ _)⟩
  · have hi : 1 ≤ i := hi
    rw [setS_other (by omega)]; exact htop i
  · refine hr.upd (fun i => i = 0) hle (Keep.of_below hb) (fun i hi => ⟨by rw [hone i hi, hdead], setS_other hi _⟩) (fun i t _ hl => by rw [hdead] at hl; cases hl) (fun i t hi _ e hreal => ?_) (fun i j _ _ hi hj _ _ _ _ _ _ _ => hi.trans hj.symm) (fun i hi => ?_)
    · subst hi; rw [setS_same] at e; cases e; exact .inl (hsb hreal)
    · subst hi
      rw [setS_same]
      refine ⟨s, rfl, hsz, hsn.trans hn.symm, ?_⟩
      rcases hs2 with ⟨h0, hreal⟩ | ⟨hreal, hown, hroom, hvre⟩
      · exact .inl ⟨List.length_eq_zero_iff.1 (hn.trans h0), hreal⟩
      · exact .inr ⟨hreal, hown, hroom, hvre _ hlow⟩
theorem ok71 : SpecOK P 71 (shaped A71 r71) := okRuns _ fun args os e os' h φ w vals hr htop hv => by
  have hinfo : ∃ i0 z, P.info? 55 = some i0 ∧ i0.zero = some z ∧ i0.size = 4 ∧ i0.bytes = 32 ∧ z.cells.size = 4 := by
    obtain ⟨i0, z, hi, hz, h1, h2, _⟩ := zeroOk_info (P := P) (e := 55) (by kernel_rfl)
    have h3 : P.cellsOf 55 = 4 := by kernel_rfl
    have h4 : P.bytesOf 55 = 32 := by kernel_rfl
    have h5 : P.bytesOf 55 = i0.bytes := by simp [Program.bytesOf, hi]
    exact ⟨i0, z, hi, hz, h1.trans h3, h5.symm.trans h4, h2.trans (h1.trans h3)⟩
  obtain ⟨i0, z, hi, hz0, hz1, hz2, hzs⟩ := hinfo
  have hnil : ∀ n c, Does P 71 #[.slice none n c] w fun en w' => en = .returned (.slice none 0 0) ∧ w' = w := fun n c =>
    Does.text Tryz.func71 (c := cod Tryz.f71) (by kernel_rfl) (by kernel_rfl) (AnyE.slices_Clone_nil Tryz.laysClone n c w)
  have key : ∀ es, es.length ≤ 1048576 → VRs φ (Lv φ (Abs.look [])) w [.sl 4 es] vals.toList → Rel φ (Abs.look []) w → (∀ i, φ i = none) → Does P 71 vals w fun en w' => ∃ φ', endR (fun x u => Post φ (Abs.look []) 0 w x [.row 4 es] u w' φ') (.ret (.wref 0)) en := by
    intro es hes hq hr htop
    simp only [VRs, VR] at hq
    obtain ⟨x, xs, e1, ⟨a, cap, rfl, hcap, hq2⟩, rfl⟩ := hq
    obtain rfl : vals = #[.slice a es.length cap] := Array.ext' e1
    have hcell : ∀ x, oneV x = true → x.oneCell' = true := fun x h => by cases x <;> first | rfl | cases h
    cases a with
    | none =>
      have h0 : es = [] := by
        rcases hq2 with h | ⟨_, _, h, _⟩
        · exact h
        · cases h
      subst h0
      refine (hnil _ _).mono fun en w' ⟨he, hw⟩ => ?_
      subst he hw
      obtain ⟨φ', hp⟩ := post71 (es := []) (n := 0) (v' := .slice none 0 0) (news := []) hr htop rfl (by simp) (by simp [VRs]) (by simp) ⟨by simp, .inl ⟨rfl, rfl⟩⟩ (Go.RowKit.Below.refl _ _)
      exact ⟨φ', hp⟩
    | some a =>
      obtain ⟨news, h1, h2, h3, hp⟩ : ∃ news : List Value, VRs φ (Lv φ (Abs.look [])) w es.flatten news ∧ news.length = es.length * 4 ∧ (∀ j x, news[j]? = some x → w.cell? (a.add j) = some x ∧ oneV x = true) ∧ ∀ e, e ∈ es → pureL e = true ∧ e.length = 4 := by
        rcases hq2 with rfl | ⟨b, o, ha, _, _, hq3⟩
        · exact ⟨[], by simp [VRs], by simp, by simp, by simp⟩
        · cases ha
          obtain ⟨us, h1, h2, h3⟩ := VRe_vals hq3
          exact ⟨us, h1, h2, fun j x hj => by rw [addr_add]; exact h3 j x hj, VRe_pure' hq3⟩
      have hone : ∀ x ∈ news, oneV x = true := fun x hx => by
        obtain ⟨j, hj⟩ := List.getElem?_of_mem hx
        exact (h3 j x hj).2
      refine (Does.text Tryz.func71 (c := cod Tryz.f71) (by kernel_rfl) (by kernel_rfl) (clone71 a es.length cap news w i0 z hi hz0 hz1 hz2 hzs h2 (by unfold maxLen; omega) (by omega) (fun j x hj => (h3 j x hj).1) (fun x hx => hcell x (hone x hx)))).mono fun en w' ⟨v', he, ho, _, hb⟩ => ?_
      subst he
      obtain ⟨φ', hpost⟩ := post71 hr htop rfl hp h1 hone ho hb
      exact ⟨φ', hpost⟩
  unfold r71 at h
  split at h
  · rename_i es
    cases hb : Nat.ble es.length 1048576 with
    | false => rw [hb] at h; cases h
    | true =>
      rw [hb] at h
      simp only [cond_true, Option.some.injEq, Prod.mk.injEq] at h
      obtain ⟨rfl, rfl⟩ := h
      exact key es (Nat.le_of_ble_eq_true hb) hv hr fun i => htop i (Nat.zero_le _)
  · simp only [Option.some.injEq, Prod.mk.injEq] at h
    obtain ⟨rfl, rfl⟩ := h
    refine key [] (by simp) ?_ hr fun i => htop i (Nat.zero_le _)
    simp only [VRs, VR] at hv ⊢
    obtain ⟨x, xs, e1, rfl, rfl⟩ := hv
    exact ⟨_, _, e1, ⟨none, 0, rfl, by simp, .inl trivial⟩, rfl⟩
  · cases h
end Go.Proofs.Vm
end
section
open Go Go.Abs
namespace Go.Proofs.Vm
set_option maxRecDepth 100000
set_option maxHeartbeats 0
noncomputable def E111 : Env := En 111 [] [] [] [] [] []
def a111 : Alt := ⟨false, shI, []⟩
def A111 : List Alt := [a111]
theorem T111 (n : Int) (X : Type) (k : AEnd → List AObj → Option X) :
    body (E111) 60 111 Tryz.f111 (cod Tryz.f111) [i64 n] [] X k =
    bif ilt 0 ((bif decide (0 > n) then 0 else n).tmod 32) then k (.ret (i64 (IntKind.i64.wrap (IntKind.i64.wrap ((bif decide (0 > n) then 0 else n).tdiv 32) + 1)))) [] else k (.ret (i64 (IntKind.i64.wrap ((bif decide (0 > n) then 0 else n).tdiv 32)))) [] := by kernel_rfl
noncomputable def r111 : RF := runR (body (E111) 60 111 Tryz.f111 (cod Tryz.f111))
theorem q111 (args : List AV) (os : List AObj) : r111 args os = body (E111) 60 111 Tryz.f111 (cod Tryz.f111) args os _ fin := qR _ _ _
theorem ok111 : SpecOK P 111 (shaped A111 r111) := by
  unfold r111 E111
  refine okF 60 ?_ ?_ ?_ Tryz.func111 ?_ ?_ _
  · exact tnil
  · exact trivial
  · exact hnil
  · kernel_rfl
  · kernel_rfl
noncomputable def E113 : Env := En 113 [] [] [(168, Tryz.f168, cod Tryz.f168)] [] [] []
def a113 : Alt := ⟨false, shI, []⟩
def A113 : List Alt := [a113]
theorem T113 (n : Int) (X : Type) (k : AEnd → List AObj → Option X) :
    body (E113) 60 113 Tryz.f113 (cod Tryz.f113) [i64 n] [] X k =
    k (.ret (i64 (IntKind.i64.wrap (IntKind.i64.wrap (3 * bif decide ((bif decide (65536 < n) then 65536 else n) > 0) then bif decide (65536 < n) then 65536 else n else 0) + IntKind.i64.wrap ((IntKind.i64.wrap ((bif decide ((bif decide (65536 < n) then 65536 else n) > 0) then bif decide (65536 < n) then 65536 else n else 0) * bif decide ((bif decide (65536 < n) then 65536 else n) > 0) then bif decide (65536 < n) then 65536 else n else 0)).tdiv 512))))) [] := by kernel_rfl
noncomputable def r113 : RF := runR (body (E113) 60 113 Tryz.f113 (cod Tryz.f113))
theorem q113 (args : List AV) (os : List AObj) : r113 args os = body (E113) 60 113 Tryz.f113 (cod Tryz.f113) args os _ fin := qR _ _ _
theorem ok113 : SpecOK P 113 (shaped A113 r113) := by
  unfold r113 E113
  refine okF 60 ?_ ?_ ?_ Tryz.func113 ?_ ?_ _
  · exact tnil
  · exact (And.intro (And.intro Tryz.func168 (And.intro (by kernel_rfl) (by kernel_rfl))) trivial)
  · exact hnil
  · kernel_rfl
  · kernel_rfl
noncomputable def E112 (r137 : RF) : Env := En 112 [] [] [] [] [] [(137, shaped A137 r137)]
def a112 : Alt := ⟨false, shS, []⟩
def A112 : List Alt := [a112]
theorem T112 (r137 : RF) (n : Int) (X : Type) (k : AEnd → List AObj → Option X)
    (x1 : RE) (e1 : r137 [st { data := #[0] }, i64 (bif decide (0 > n) then 0 else n)] [] = x1) :
    body (E112 r137) 60 112 Tryz.f112 (cod Tryz.f112) [i64 n] [] X k =
    bif okAlt a137 x1 then k (.ret (st (rV x1).toStr)) [] else none := by subst e1; kernel_rfl
noncomputable def r112 : RF := runR (body (E112 r137) 60 112 Tryz.f112 (cod Tryz.f112))
theorem q112 (args : List AV) (os : List AObj) : r112 args os = body (E112 r137) 60 112 Tryz.f112 (cod Tryz.f112) args os _ fin := qR _ _ _
theorem ok112 : SpecOK P 112 (shaped A112 r112) := by
  unfold r112 E112
  refine okF 60 ?_ ?_ ?_ Tryz.func112 ?_ ?_ _
  · exact (tcons ok137 tnil)
  · exact trivial
  · exact hnil
  · kernel_rfl
  · kernel_rfl
noncomputable def E67 (r109 : RF) (r110 : RF) (r83 : RF) (r111 : RF) (r112 : RF) (r113 : RF) : Env := En 67 [] [] [] [] [] [(109, shaped A109 r109), (110, shaped A110 r110), (83, shaped A83 r83), (111, shaped A111 r111), (112, shaped A112 r112), (113, shaped A113 r113)]
def a67 : Alt := ⟨false, .tup [shS, shI, shI], []⟩
def A67 : List Alt := [a67]
theorem T67 (r109 : RF) (r110 : RF) (r83 : RF) (r111 : RF) (r112 : RF) (r113 : RF) (s : ByteArray) (a0 a1 a2 a3 b0 b1 b2 b3 : Int) (X : Type) (k : AEnd → List AObj → Option X)
    (x1 : RE) (e1 : r109 [U a0 a1 a2 a3, U b0 b1 b2 b3] [] = x1)
    (x2 : RE) (e2 : r83 [u 4096] [] = x2)
    (x3 : RE) (e3 : r110 [AV.agg (tu4 ((rV x1).items.getD 0 J).items), AV.agg (tu4 (rV x2).items)] [] = x3)
    (x4 : RE) (e4 : r111 [i64 (IntKind.i64.wrap (((rV x1).items.getD 0 J).items.getD 0 J).toInt)] [] = x4)
    (x5 : RE) (e5 : r112 [i64 (IntKind.i64.wrap (IntKind.i64.wrap (32 * (rV x4).toInt) - (↑s.size : Int)))] [] = x5)
    (x6 : RE) (e6 : r113 [i64 (rV x4).toInt] [] = x6)
    (x7 : RE) (e7 : r111 [i64 (↑s.size : Int)] [] = x7)
    (x8 : RE) (e8 : r113 [i64 (rV x7).toInt] [] = x8) :
    body (E67 r109 r110 r83 r111 r112 r113) 60 67 Tryz.f67 (cod Tryz.f67) [st s, U a0 a1 a2 a3, U b0 b1 b2 b3] [] X k =
    bif b0 == 0 && (b1 == 0 && (b2 == 0 && (b3 == 0 && true))) then k (.ret (.tuple [st s, i64 0, i64 0])) [] else bif okAlt a109 x1 then bif ((rV x1).items.getD 1 J).toBool then k (.ret (.tuple [st s, i64 0, i64 3])) [] else bif okAlt a83 x2 then bif okAlt a110 x3 then bif ilt 0 (rV x3).toInt then k (.ret (.tuple [st s, i64 0, i64 3])) [] else bif okAlt a111 x4 then bif ile (IntKind.i64.wrap (32 * (rV x4).toInt)) (↑s.size : Int) then k (.ret (.tuple [st s, i64 0, i64 0])) [] else bif okAlt a112 x5 then bif (s.size + (rV x5).toStr.size).ble 9223372036854775807 then bif okAlt a113 x6 then bif okAlt a111 x7 then bif okAlt a113 x8 then k (.ret (.tuple [st (s ++ (rV x5).toStr), i64 (IntKind.i64.wrap ((rV x6).toInt - (rV x8).toInt)), i64 0])) [] else none else none else none else none else none else none else none else none else none := by subst e1 e2 e3 e4 e5 e6 e7 e8; kernel_rfl
noncomputable def r67 : RF := runR (body (E67 r109 r110 r83 r111 r112 r113) 60 67 Tryz.f67 (cod Tryz.f67))
theorem q67 (args : List AV) (os : List AObj) : r67 args os = body (E67 r109 r110 r83 r111 r112 r113) 60 67 Tryz.f67 (cod Tryz.f67) args os _ fin := qR _ _ _
theorem ok67 : SpecOK P 67 (shaped A67 r67) := by
  unfold r67 E67
  refine okF 60 ?_ ?_ ?_ Tryz.func67 ?_ ?_ _
  · exact (tcons ok109 (tcons ok110 (tcons ok83 (tcons ok111 (tcons ok112 (tcons ok113 tnil))))))
  · exact trivial
  · exact hnil
  · kernel_rfl
  · kernel_rfl
noncomputable def E197 : Env := En 197 [] [] [] [] [] []
def a197 : Alt := ⟨false, shS, []⟩
def A197 : List Alt := [a197]
theorem T197 (s : ByteArray) (n : Int) (t : ByteArray) (X : Type) (k : AEnd → List AObj → Option X) :
    body (E197) 60 197 Tryz.f197 (cod Tryz.f197) [st s, i64 n, st t] [] X k =
    bif ilt n 0 then k (.ret (st s)) [] else bif ilt (IntKind.i64.wrap ((↑s.size : Int) - n)) (↑t.size : Int) then k (.ret (st s)) [] else bif decide (0 ≤ n) && decide (n ≤ (↑s.size : Int)) then bif ((s.extract 0 n.toNat).size + t.size).ble 9223372036854775807 then bif decide (0 ≤ IntKind.i64.wrap (n + (↑t.size : Int))) && decide (IntKind.i64.wrap (n + (↑t.size : Int)) ≤ (↑s.size : Int)) then bif ((s.extract 0 n.toNat ++ t).size + (s.extract (IntKind.i64.wrap (n + (↑t.size : Int))).toNat s.size).size).ble 9223372036854775807 then k (.ret (st (s.extract 0 n.toNat ++ t ++ s.extract (IntKind.i64.wrap (n + (↑t.size : Int))).toNat s.size))) [] else none else none else none else none := by kernel_rfl
noncomputable def r197 : RF := runR (body (E197) 60 197 Tryz.f197 (cod Tryz.f197))
theorem q197 (args : List AV) (os : List AObj) : r197 args os = body (E197) 60 197 Tryz.f197 (cod Tryz.f197) args os _ fin := qR _ _ _
theorem ok197 : SpecOK P 197 (shaped A197 r197) := by
  unfold r197 E197
  refine okF 60 ?_ ?_ ?_ Tryz.func197 ?_ ?_ _
  · exact tnil
  · exact trivial
  · exact hnil
  · kernel_rfl
  · kernel_rfl
noncomputable def E117 (r110 : RF) (r83 : RF) (r112 : RF) : Env := En 117 [] [] [] [] [] [(110, shaped A110 r110), (83, shaped A83 r83), (112, shaped A112 r112)]
def a117 : Alt := ⟨false, shS, []⟩
def A117 : List Alt := [a117]
theorem T117 (r110 : RF) (r83 : RF) (r112 : RF) (s : ByteArray) (a0 a1 a2 a3 n : Int) (X : Type) (k : AEnd → List AObj → Option X)
    (x1 : RE) (e1 : r83 [u (IntKind.u64.wrap (↑s.size : Int))] [] = x1)
    (x2 : RE) (e2 : r110 [U a0 a1 a2 a3, AV.agg (tu4 (rV x1).items)] [] = x2)
    (x3 : RE) (e3 : r112 [i64 (IntKind.i64.wrap (n - (↑((s.extract (↑s.size : Int).toNat s.size).extract 0 (bif decide ((↑(s.extract (↑s.size : Int).toNat s.size).size : Int) < n) then (↑(s.extract (↑s.size : Int).toNat s.size).size : Int) else n).toNat).size : Int)))] [] = x3)
    (x4 : RE) (e4 : r112 [i64 (IntKind.i64.wrap (n - (↑((s.extract (IntKind.i64.wrap a0).toNat s.size).extract 0 (bif decide ((↑(s.extract (IntKind.i64.wrap a0).toNat s.size).size : Int) < n) then (↑(s.extract (IntKind.i64.wrap a0).toNat s.size).size : Int) else n).toNat).size : Int)))] [] = x4) :
    body (E117 r110 r83 r112) 60 117 Tryz.f117 (cod Tryz.f117) [st s, U a0 a1 a2 a3, i64 n] [] X k =
    bif ilt n 0 then k (.ret (st { data := #[] })) [] else bif ilt 65536 n then k (.ret (st { data := #[] })) [] else bif okAlt a83 x1 then bif okAlt a110 x2 then bif ilt (rV x2).toInt 0 then bif decide (0 ≤ IntKind.i64.wrap a0) && decide (IntKind.i64.wrap a0 ≤ (↑s.size : Int)) then bif decide (0 ≤ bif decide ((↑(s.extract (IntKind.i64.wrap a0).toNat s.size).size : Int) < n) then (↑(s.extract (IntKind.i64.wrap a0).toNat s.size).size : Int) else n) && decide ((bif decide ((↑(s.extract (IntKind.i64.wrap a0).toNat s.size).size : Int) < n) then (↑(s.extract (IntKind.i64.wrap a0).toNat s.size).size : Int) else n) ≤ (↑(s.extract (IntKind.i64.wrap a0).toNat s.size).size : Int)) then bif okAlt a112 x4 then bif (((s.extract (IntKind.i64.wrap a0).toNat s.size).extract 0 (bif decide ((↑(s.extract (IntKind.i64.wrap a0).toNat s.size).size : Int) < n) then (↑(s.extract (IntKind.i64.wrap a0).toNat s.size).size : Int) else n).toNat).size + (rV x4).toStr.size).ble 9223372036854775807 then k (.ret (st ((s.extract (IntKind.i64.wrap a0).toNat s.size).extract 0 (bif decide ((↑(s.extract (IntKind.i64.wrap a0).toNat s.size).size : Int) < n) then (↑(s.extract (IntKind.i64.wrap a0).toNat s.size).size : Int) else n).toNat ++ (rV x4).toStr))) [] else none else none else none else none else bif decide (0 ≤ (↑s.size : Int)) && decide ((↑s.size : Int) ≤ (↑s.size : Int)) then bif decide (0 ≤ bif decide ((↑(s.extract (↑s.size : Int).toNat s.size).size : Int) < n) then (↑(s.extract (↑s.size : Int).toNat s.size).size : Int) else n) && decide ((bif decide ((↑(s.extract (↑s.size : Int).toNat s.size).size : Int) < n) then (↑(s.extract (↑s.size : Int).toNat s.size).size : Int) else n) ≤ (↑(s.extract (↑s.size : Int).toNat s.size).size : Int)) then bif okAlt a112 x3 then bif (((s.extract (↑s.size : Int).toNat s.size).extract 0 (bif decide ((↑(s.extract (↑s.size : Int).toNat s.size).size : Int) < n) then (↑(s.extract (↑s.size : Int).toNat s.size).size : Int) else n).toNat).size + (rV x3).toStr.size).ble 9223372036854775807 then k (.ret (st ((s.extract (↑s.size : Int).toNat s.size).extract 0 (bif decide ((↑(s.extract (↑s.size : Int).toNat s.size).size : Int) < n) then (↑(s.extract (↑s.size : Int).toNat s.size).size : Int) else n).toNat ++ (rV x3).toStr))) [] else none else none else none else none else none else none := by subst e1 e2 e3 e4; kernel_rfl
noncomputable def r117 : RF := runR (body (E117 r110 r83 r112) 60 117 Tryz.f117 (cod Tryz.f117))
theorem q117 (args : List AV) (os : List AObj) : r117 args os = body (E117 r110 r83 r112) 60 117 Tryz.f117 (cod Tryz.f117) args os _ fin := qR _ _ _
theorem ok117 : SpecOK P 117 (shaped A117 r117) := by
  unfold r117 E117
  refine okF 60 ?_ ?_ ?_ Tryz.func117 ?_ ?_ _
  · exact (tcons ok110 (tcons ok83 (tcons ok112 tnil)))
  · exact trivial
  · exact hnil
  · kernel_rfl
  · kernel_rfl
noncomputable def E116 (r170 : RF) : Env := En 116 [] [] [] [] [] [(170, shaped A170 r170)]
def a116 : Alt := ⟨false, shU, []⟩
def A116 : List Alt := [a116]
theorem T116 (r170 : RF) (s : ByteArray) (X : Type) (k : AEnd → List AObj → Option X)
    (x1 : RE) (e1 : r170 [st s] [] = x1) :
    body (E116 r170) 60 116 Tryz.f116 (cod Tryz.f116) [st s] [] X k =
    bif okAlt a170 x1 then k (.ret (AV.agg (tu4 ((rV x1).items.getD 0 J).items))) [] else none := by subst e1; kernel_rfl
noncomputable def r116 : RF := runR (body (E116 r170) 60 116 Tryz.f116 (cod Tryz.f116))
theorem q116 (args : List AV) (os : List AObj) : r116 args os = body (E116 r170) 60 116 Tryz.f116 (cod Tryz.f116) args os _ fin := qR _ _ _
theorem ok116 : SpecOK P 116 (shaped A116 r116) := by
  unfold r116 E116
  refine okF 60 ?_ ?_ ?_ Tryz.func116 ?_ ?_ _
  · exact (tcons ok170 tnil)
  · exact trivial
  · exact hnil
  · kernel_rfl
  · kernel_rfl
noncomputable def E188 (r110 : RF) : Env := En 188 [] [] [] [] [] [(110, shaped A110 r110)]
def a188 : Alt := ⟨false, shB, []⟩
def A188 : List Alt := [a188]
theorem T188 (r110 : RF) (a0 a1 a2 a3 b0 b1 b2 b3 : Int) (X : Type) (k : AEnd → List AObj → Option X)
    (x1 : RE) (e1 : r110 [U a0 a1 a2 (IntKind.u64.wrap (↑(BitVec.ofInt IntKind.u64.bits a3 ^^^ BitVec.ofInt IntKind.u64.bits 9223372036854775808).toNat : Int)), U b0 b1 b2 (IntKind.u64.wrap (↑(BitVec.ofInt IntKind.u64.bits b3 ^^^ BitVec.ofInt IntKind.u64.bits 9223372036854775808).toNat : Int))] [] = x1) :
    body (E188 r110) 60 188 Tryz.f188 (cod Tryz.f188) [U a0 a1 a2 a3, U b0 b1 b2 b3] [] X k =
    bif okAlt a110 x1 then k (.ret (bo (ilt (rV x1).toInt 0))) [] else none := by subst e1; kernel_rfl
noncomputable def r188 : RF := runR (body (E188 r110) 60 188 Tryz.f188 (cod Tryz.f188))
theorem q188 (args : List AV) (os : List AObj) : r188 args os = body (E188 r110) 60 188 Tryz.f188 (cod Tryz.f188) args os _ fin := qR _ _ _
theorem ok188 : SpecOK P 188 (shaped A188 r188) := by
  unfold r188 E188
  refine okF 60 ?_ ?_ ?_ Tryz.func188 ?_ ?_ _
  · exact (tcons ok110 tnil)
  · exact trivial
  · exact hnil
  · kernel_rfl
  · kernel_rfl
noncomputable def E177 (r184 : RF) (r83 : RF) (r109 : RF) : Env := En 177 [] [] [] [] [] [(184, shaped A184 r184), (83, shaped A83 r83), (109, shaped A109 r109)]
def a177 : Alt := ⟨false, shU, []⟩
def A177 : List Alt := [a177]
theorem T177 (r184 : RF) (r83 : RF) (r109 : RF) (a0 a1 a2 a3 : Int) (X : Type) (k : AEnd → List AObj → Option X)
    (x1 : RE) (e1 : r184 [U a0 a1 a2 a3] [] = x1)
    (x2 : RE) (e2 : r83 [u 1] [] = x2)
    (x3 : RE) (e3 : r109 [AV.agg (tu4 (rV x1).items), AV.agg (tu4 (rV x2).items)] [] = x3) :
    body (E177 r184 r83 r109) 60 177 Tryz.f177 (cod Tryz.f177) [U a0 a1 a2 a3] [] X k =
    bif okAlt a184 x1 then bif okAlt a83 x2 then bif okAlt a109 x3 then k (.ret (AV.agg (tu4 ((rV x3).items.getD 0 J).items))) [] else none else none else none := by subst e1 e2 e3; kernel_rfl
noncomputable def r177 : RF := runR (body (E177 r184 r83 r109) 60 177 Tryz.f177 (cod Tryz.f177))
theorem q177 (args : List AV) (os : List AObj) : r177 args os = body (E177 r184 r83 r109) 60 177 Tryz.f177 (cod Tryz.f177) args os _ fin := qR _ _ _
theorem ok177 : SpecOK P 177 (shaped A177 r177) := by
  unfold r177 E177
  refine okF 60 ?_ ?_ ?_ Tryz.func177 ?_ ?_ _
  · exact (tcons ok184 (tcons ok83 (tcons ok109 tnil)))
  · exact trivial
  · exact hnil
  · kernel_rfl
  · kernel_rfl
noncomputable def E178 : Env := En 178 [] [] [] [] [] []
def a178 : Alt := ⟨false, shB, []⟩
def A178 : List Alt := [a178]
theorem T178 (a0 a1 a2 a3 : Int) (X : Type) (k : AEnd → List AObj → Option X) :
    body (E178) 60 178 Tryz.f178 (cod Tryz.f178) [U a0 a1 a2 a3] [] X k =
    k (.ret (bo (a3.fdiv (2 ^ min (Int.toNat 63) IntKind.u64.bits) == 1))) [] := by kernel_rfl
noncomputable def r178 : RF := runR (body (E178) 60 178 Tryz.f178 (cod Tryz.f178))
theorem q178 (args : List AV) (os : List AObj) : r178 args os = body (E178) 60 178 Tryz.f178 (cod Tryz.f178) args os _ fin := qR _ _ _
theorem ok178 : SpecOK P 178 (shaped A178 r178) := by
  unfold r178 E178
  refine okF 60 ?_ ?_ ?_ Tryz.func178 ?_ ?_ _
  · exact tnil
  · exact trivial
  · exact hnil
  · kernel_rfl
  · kernel_rfl
noncomputable def E193 (r183 : RF) (r178 : RF) (r184 : RF) (r185 : RF) : Env := En 193 [] [] [] [] [] [(183, shaped A183 r183), (178, shaped A178 r178), (184, shaped A184 r184), (185, shaped A185 r185)]
def a193 : Alt := ⟨false, shU, []⟩
def A193 : List Alt := [a193]
theorem T193 (r183 : RF) (r178 : RF) (r184 : RF) (r185 : RF) (a0 a1 a2 a3 n : Int) (X : Type) (k : AEnd → List AObj → Option X)
    (x1 : RE) (e1 : r183 [U a0 a1 a2 a3, u n] [] = x1)
    (x2 : RE) (e2 : r178 [U a0 a1 a2 a3] [] = x2)
    (x3 : RE) (e3 : r184 [U 0 0 0 0] [] = x3)
    (x4 : RE) (e4 : r183 [AV.agg (tu4 (rV x3).items), u n] [] = x4)
    (x5 : RE) (e5 : r184 [AV.agg (tu4 (rV x4).items)] [] = x5)
    (x6 : RE) (e6 : r185 [AV.agg (tu4 (rV x1).items), AV.agg (tu4 (rV x5).items)] [] = x6) :
    body (E193 r183 r178 r184 r185) 60 193 Tryz.f193 (cod Tryz.f193) [U a0 a1 a2 a3, u n] [] X k =
    bif okAlt a183 x1 then bif okAlt a178 x2 then bif (rV x2).toBool then bif okAlt a184 x3 then bif okAlt a183 x4 then bif okAlt a184 x5 then bif okAlt a185 x6 then k (.ret (AV.agg (tu4 (rV x6).items))) [] else none else none else none else none else k (.ret (AV.agg (tu4 (rV x1).items))) [] else none else none := by subst e1 e2 e3 e4 e5 e6; kernel_rfl
noncomputable def r193 : RF := runR (body (E193 r183 r178 r184 r185) 60 193 Tryz.f193 (cod Tryz.f193))
theorem q193 (args : List AV) (os : List AObj) : r193 args os = body (E193 r183 r178 r184 r185) 60 193 Tryz.f193 (cod Tryz.f193) args os _ fin := qR _ _ _
theorem ok193 : SpecOK P 193 (shaped A193 r193) := by
  unfold r193 E193
  refine okF 60 ?_ ?_ ?_ Tryz.func193 ?_ ?_ _
  · exact (tcons ok183 (tcons ok178 (tcons ok184 (tcons ok185 tnil))))
  · exact trivial
  · exact hnil
  · kernel_rfl
  · kernel_rfl
noncomputable def E127 (r110 : RF) (r83 : RF) (r184 : RF) (r183 : RF) (r185 : RF) (r186 : RF) : Env := En 127 [] [] [] [] [] [(110, shaped A110 r110), (83, shaped A83 r83), (184, shaped A184 r184), (183, shaped A183 r183), (185, shaped A185 r185), (186, shaped A186 r186)]
def a127 : Alt := ⟨false, shU, []⟩
def A127 : List Alt := [a127]
theorem T127 (r110 : RF) (r83 : RF) (r184 : RF) (r183 : RF) (r185 : RF) (r186 : RF) (a0 a1 a2 a3 b0 b1 b2 b3 : Int) (X : Type) (k : AEnd → List AObj → Option X)
    (x1 : RE) (e1 : r83 [u 31] [] = x1)
    (x2 : RE) (e2 : r110 [U a0 a1 a2 a3, AV.agg (tu4 (rV x1).items)] [] = x2)
    (x3 : RE) (e3 : r184 [U 0 0 0 0] [] = x3)
    (x4 : RE) (e4 : r183 [AV.agg (tu4 (rV x3).items), u (IntKind.u64.wrap (248 - IntKind.u64.wrap (8 * a0)))] [] = x4)
    (x5 : RE) (e5 : r183 [U b0 b1 b2 b3, u (IntKind.u64.wrap (IntKind.u64.wrap (8 * a0) + 7))] [] = x5)
    (x6 : RE) (e6 : r186 [U b0 b1 b2 b3, AV.agg (tu4 (rV x4).items)] [] = x6)
    (x7 : RE) (e7 : r184 [AV.agg (tu4 (rV x4).items)] [] = x7)
    (x8 : RE) (e8 : r185 [U b0 b1 b2 b3, AV.agg (tu4 (rV x7).items)] [] = x8) :
    body (E127 r110 r83 r184 r183 r185 r186) 60 127 Tryz.f127 (cod Tryz.f127) [U a0 a1 a2 a3, U b0 b1 b2 b3] [] X k =
    bif okAlt a83 x1 then bif okAlt a110 x2 then bif ile 0 (rV x2).toInt then k (.ret (U b0 b1 b2 b3)) [] else bif okAlt a184 x3 then bif okAlt a183 x4 then bif okAlt a183 x5 then bif IntKind.u64.wrap (↑(BitVec.ofInt IntKind.u64.bits ((rV x5).items.getD 0 J).toInt &&& BitVec.ofInt IntKind.u64.bits 1).toNat : Int) == 1 then bif okAlt a184 x7 then bif okAlt a185 x8 then k (.ret (AV.agg (tu4 (rV x8).items))) [] else none else none else bif okAlt a186 x6 then k (.ret (AV.agg (tu4 (rV x6).items))) [] else none else none else none else none else none else none := by subst e1 e2 e3 e4 e5 e6 e7 e8; kernel_rfl
noncomputable def r127 : RF := runR (body (E127 r110 r83 r184 r183 r185 r186) 60 127 Tryz.f127 (cod Tryz.f127))
theorem q127 (args : List AV) (os : List AObj) : r127 args os = body (E127 r110 r83 r184 r183 r185 r186) 60 127 Tryz.f127 (cod Tryz.f127) args os _ fin := qR _ _ _
theorem ok127 : SpecOK P 127 (shaped A127 r127) := by
  unfold r127 E127
  refine okF 60 ?_ ?_ ?_ Tryz.func127 ?_ ?_ _
  · exact (tcons ok110 (tcons ok83 (tcons ok184 (tcons ok183 (tcons ok185 (tcons ok186 tnil))))))
  · exact trivial
  · exact hnil
  · kernel_rfl
  · kernel_rfl
noncomputable def E190 (r110 : RF) (r83 : RF) (r183 : RF) (r186 : RF) : Env := En 190 [] [] [] [] [] [(110, shaped A110 r110), (83, shaped A83 r83), (183, shaped A183 r183), (186, shaped A186 r186)]
def a190 : Alt := ⟨false, shU, []⟩
def A190 : List Alt := [a190]
theorem T190 (r110 : RF) (r83 : RF) (r183 : RF) (r186 : RF) (a0 a1 a2 a3 b0 b1 b2 b3 : Int) (X : Type) (k : AEnd → List AObj → Option X)
    (x1 : RE) (e1 : r83 [u 32] [] = x1)
    (x2 : RE) (e2 : r110 [U a0 a1 a2 a3, AV.agg (tu4 (rV x1).items)] [] = x2)
    (x3 : RE) (e3 : r183 [U b0 b1 b2 b3, u (IntKind.u64.wrap (248 - IntKind.u64.wrap (8 * a0)))] [] = x3)
    (x4 : RE) (e4 : r83 [u 255] [] = x4)
    (x5 : RE) (e5 : r186 [AV.agg (tu4 (rV x3).items), AV.agg (tu4 (rV x4).items)] [] = x5) :
    body (E190 r110 r83 r183 r186) 60 190 Tryz.f190 (cod Tryz.f190) [U a0 a1 a2 a3, U b0 b1 b2 b3] [] X k =
    bif okAlt a83 x1 then bif okAlt a110 x2 then bif ile 0 (rV x2).toInt then k (.ret (U 0 0 0 0)) [] else bif okAlt a183 x3 then bif okAlt a83 x4 then bif okAlt a186 x5 then k (.ret (AV.agg (tu4 (rV x5).items))) [] else none else none else none else none else none := by subst e1 e2 e3 e4 e5; kernel_rfl
noncomputable def r190 : RF := runR (body (E190 r110 r83 r183 r186) 60 190 Tryz.f190 (cod Tryz.f190))
theorem q190 (args : List AV) (os : List AObj) : r190 args os = body (E190 r110 r83 r183 r186) 60 190 Tryz.f190 (cod Tryz.f190) args os _ fin := qR _ _ _
theorem ok190 : SpecOK P 190 (shaped A190 r190) := by
  unfold r190 E190
  refine okF 60 ?_ ?_ ?_ Tryz.func190 ?_ ?_ _
  · exact (tcons ok110 (tcons ok83 (tcons ok183 (tcons ok186 tnil))))
  · exact trivial
  · exact hnil
  · kernel_rfl
  · kernel_rfl
end Go.Proofs.Vm
end
section
namespace Go.Proofs.Vm
open Go Go.Abs
theorem w137 {s : ByteArray} {n : Int} (h0 : 0 ≤ n) (h1 : s.size * n.toNat ≤ 140737488355328) (h2 : n.toNat ≤ 9223372036854775807) : r137 [st s, i64 n] [] = some (.ret (st ⟨⟨Lib.repeatL s.data.toList n.toNat⟩⟩), []) := by
  have : (ile 0 n && Nat.ble (s.size * n.toNat) 140737488355328 && Nat.ble n.toNat 9223372036854775807) = true := by simp [ile_eq, h0, Nat.ble_eq, h1, h2]
  simp only [r137, st, i64, this, cond_true]
theorem w111 {n : Int} (h0 : 0 ≤ n) (h1 : n ≤ 9223372036854775807) : ∃ r, r111 [i64 n] [] = some (.ret (i64 r), []) ∧ r = (n + 31) / 32 := by
  have h := (q111 _ _).trans (T111 n _ fin)
  have e : (bif decide (0 > n) then 0 else n) = n := by rw [decide_eq_false (by omega)]; rfl
  rw [e] at h
  have e0 : n.tdiv 32 = n / 32 := Int.tdiv_eq_ediv_of_nonneg h0
  have e1 : n.tmod 32 = n % 32 := Int.tmod_eq_emod_of_nonneg h0
  rw [e0, e1] at h
  cases hc : ilt 0 (n % 32) with
  | true =>
    rw [ilt_eq, decide_eq_true_eq] at hc
    rw [show ilt 0 (n % 32) = true by rw [ilt_eq, decide_eq_true_eq]; exact hc] at h
    exact ⟨_, h, by rw [IntWalk.i64_in (n / 32) (by omega), IntWalk.i64_in _ (by omega)]; omega⟩
  | false =>
    rw [ilt_eq, decide_eq_false_iff_not] at hc
    rw [show ilt 0 (n % 32) = false by rw [ilt_eq, decide_eq_false_iff_not]; exact hc] at h
    exact ⟨_, h, by rw [IntWalk.i64_in (n / 32) (by omega)]; omega⟩
def costF (n : Int) : Int := 3 * n + n * n / 512
theorem w113 {n : Int} (h0 : 0 ≤ n) (h1 : n ≤ 65536) : ∃ r, r113 [i64 n] [] = some (.ret (i64 r), []) ∧ r = costF n := by
  have h := (q113 _ _).trans (T113 n _ fin)
  have e : (bif (decide ((bif decide (65536 < n) then (65536 : Int) else n) > 0)) then (bif decide (65536 < n) then (65536 : Int) else n) else 0) = n := by
    rw [decide_eq_false (by omega : ¬ (65536 < n))]
    by_cases hn : n > 0
    · simp [hn]
    · have : n = 0 := by omega
      subst this; rfl
  simp only [e] at h
  have hn2 : n * n ≤ 65536 * 65536 := Int.mul_le_mul h1 h1 h0 (by omega)
  have hn0 : 0 ≤ n * n := Int.mul_nonneg h0 h0
  refine ⟨_, h, ?_⟩
  unfold costF
  rw [IntWalk.i64_in (n * n) (by omega), Int.tdiv_eq_ediv_of_nonneg hn0, IntWalk.i64_in (3 * n) (by omega), IntWalk.i64_in (n * n / 512) (by omega), IntWalk.i64_in _ (by omega)]
theorem costF_mono {a b : Int} (h0 : 0 ≤ a) (h : a ≤ b) : costF a ≤ costF b := by
  unfold costF
  have : a * a ≤ b * b := Int.mul_le_mul h h h0 (by omega)
  have : a * a / 512 ≤ b * b / 512 := Int.ediv_le_ediv (by omega) this
  omega
theorem w112 {n : Int} (h1 : n ≤ 140737488355328) : ∃ s, r112 [i64 n] [] = some (.ret (st s), []) ∧ s = ⟨⟨Lib.repeatL [0] n.toNat⟩⟩ ∧ s.size = n.toNat := by
  have e : ((bif decide (0 > n) then 0 else n) : Int).toNat = n.toNat := by
    by_cases hn : 0 > n
    · rw [decide_eq_true hn]; simp; omega
    · rw [decide_eq_false hn]; rfl
  have h0 : (0 : Int) ≤ (bif decide (0 > n) then 0 else n) := by
    by_cases hn : 0 > n
    · rw [decide_eq_true hn]; simp
    · rw [decide_eq_false hn]; simp; omega
  have e1 := w137 (s := { data := #[0] }) h0 (by rw [e]; show 1 * _ ≤ _; omega) (by rw [e]; omega)
  rw [e] at e1
  refine ⟨_, (q112 _ _).trans (T112 r137 n _ fin _ e1), rfl, ?_⟩
  show (Lib.repeatL _ _).length = _
  rw [Lib.repeatL_length]; simp
theorem toInt32 {s : ByteArray} (h : s.size ≤ 1048576) : IntKind.u64.wrap (s.size : Int) = s.size := IntWalk.u64_in _ (by omega)
theorem r4c {n : Int} (h : R64 n) : R4 n 0 0 0 := ⟨h, r64_0, r64_0, r64_0⟩
theorem val1 (n : Int) : val n 0 0 0 = n := by unfold val; omega
theorem spB {b : Bool} {x y r : RE} (h : r = (bif b then x else y)) : (b = true ∧ r = x) ∨ (b = false ∧ r = y) := by cases b; exact .inr ⟨rfl, h⟩; exact .inl ⟨rfl, h⟩
theorem spT {b : Bool} {x y r : RE} (hb : b = true) (h : r = (bif b then x else y)) : r = x := by subst hb; exact h
theorem spTB {b : Bool} {x y r : RBE} (hb : b = true) (h : r = (bif b then x else y)) : r = x := by subst hb; exact h
theorem spBB {b : Bool} {x y r : RBE} (h : r = (bif b then x else y)) : (b = true ∧ r = x) ∨ (b = false ∧ r = y) := by cases b; exact .inr ⟨rfl, h⟩; exact .inl ⟨rfl, h⟩
theorem spF {b : Bool} {x y r : RE} (hb : b = false) (h : r = (bif b then x else y)) : r = y := by subst hb; exact h
theorem w67 {s : ByteArray} {a0 a1 a2 a3 b0 b1 b2 b3 : Int} (hs : s.size ≤ 4096) (ha : R4 a0 a1 a2 a3) (hb : R4 b0 b1 b2 b3) :
    ∃ t c e, r67 [st s, U a0 a1 a2 a3, U b0 b1 b2 b3] [] = some (.ret (.tuple [st t, i64 c, i64 e]), []) ∧ 0 ≤ c ∧ c ≤ 1048576 ∧ t.size ≤ 4096 ∧ s.size ≤ t.size ∧ (e = 0 → val b0 b1 b2 b3 ≠ 0 → val a0 a1 a2 a3 + val b0 b1 b2 b3 ≤ t.size) := by
  obtain ⟨s0, s1, s2, s3, o, e1, hs1, ho⟩ := w109 ha hb
  have e2 := w83 4096
  have e3 := w110 hs1 (r4c (n := 4096) (by constructor <;> omega))
  have hva := val_lt ha
  have hvb := val_lt hb
  have hb0 : (b0 == 0 && (b1 == 0 && (b2 == 0 && (b3 == 0 && true)))) = true → val b0 b1 b2 b3 = 0 := fun h => by
    simp only [Bool.and_eq_true, beq_iff_eq] at h
    obtain ⟨rfl, rfl, rfl, rfl, _⟩ := h
    rfl
  rw [val1] at e3
  by_cases hend : cmpI (val s0 s1 s2 s3) 4096 ≤ 0 ∧ o = false
  · obtain ⟨hend, rfl⟩ := hend
    have hle : val s0 s1 s2 s3 ≤ 4096 := by unfold cmpI at hend; split at hend <;> first | omega | (split at hend <;> omega)
    have hs0 : 0 ≤ s0 ∧ s0 ≤ 4096 ∧ s0 = val s0 s1 s2 s3 := by
      obtain ⟨⟨_, _⟩, ⟨_, _⟩, ⟨_, _⟩, ⟨_, _⟩⟩ := hs1
      unfold val at hle ⊢; omega
    simp only [ov, cond_false] at ho
    have hw : IntKind.i64.wrap s0 = s0 := IntWalk.i64_in _ (by omega)
    obtain ⟨r4, e4, h4⟩ := w111 (n := IntKind.i64.wrap s0) (by omega) (by omega)
    rw [hw] at h4
    have hr4 : IntKind.i64.wrap (32 * r4) = 32 * r4 := IntWalk.i64_in _ (by omega)
    have hr5 : IntKind.i64.wrap (IntKind.i64.wrap (32 * r4) - (s.size : Int)) = 32 * r4 - s.size := by rw [hr4]; exact IntWalk.i64_in _ (by omega)
    obtain ⟨t, e5, ht, ht2⟩ := w112 (n := IntKind.i64.wrap (IntKind.i64.wrap (32 * r4) - (s.size : Int))) (by rw [hr5]; omega)
    rw [hr5] at ht2
    obtain ⟨c6, e6, h6⟩ := w113 (n := r4) (by omega) (by omega)
    obtain ⟨r7, e7, h7⟩ := w111 (n := (s.size : Int)) (by omega) (by omega)
    obtain ⟨c8, e8, h8⟩ := w113 (n := r7) (by omega) (by omega)
    have h := (q67 _ _).trans (T67 r109 r110 r83 r111 r112 r113 s a0 a1 a2 a3 b0 b1 b2 b3 _ fin _ e1 _ e2 _ e3 _ e4 _ e5 _ e6 _ e7 _ e8)
    rcases spB h with ⟨hc, h⟩ | ⟨hc, h⟩
    · exact ⟨_, _, _, h, by omega, by omega, hs, by omega, fun _ h => absurd (hb0 hc) h⟩
    · have hx : ilt 0 (cmpI (val s0 s1 s2 s3) 4096) = false := by rw [ilt_eq, decide_eq_false_iff_not]; omega
      have h : r67 [st s, U a0 a1 a2 a3, U b0 b1 b2 b3] [] = (bif ilt 0 (cmpI (val s0 s1 s2 s3) 4096) then _ else _) := h
      rw [hx] at h
      rcases spB (b := ile (IntKind.i64.wrap (32 * r4)) (s.size : Int)) h with ⟨hc2, h⟩ | ⟨hc2, h⟩
      · rw [ile_eq, decide_eq_true_eq, hr4] at hc2
        exact ⟨_, _, _, h, by omega, by omega, hs, by omega, fun _ _ => by omega⟩
      · rw [ile_eq, decide_eq_false_iff_not, hr4] at hc2
        have h : r67 [st s, U a0 a1 a2 a3, U b0 b1 b2 b3] [] = (bif (s.size + t.size).ble 9223372036854775807 then _ else _) := h
        rw [show (s.size + t.size).ble 9223372036854775807 = true by rw [Nat.ble_eq]; omega] at h
        have hm := costF_mono (a := r7) (b := r4) (by omega) (by omega)
        have hb4 := costF_mono (a := r4) (b := 128) (by omega) (by omega)
        have hb7 := costF_mono (a := 0) (b := r7) (by omega) (by omega)
        have k1 : costF 128 = 416 := rfl
        have k2 : costF 0 = 0 := rfl
        have hsz : (s ++ t).size = s.size + t.size := ByteArray.size_append
        refine ⟨_, _, _, h, ?_, ?_, ?_, ?_, fun _ _ => ?_⟩
        · show 0 ≤ IntKind.i64.wrap (c6 - c8); rw [IntWalk.i64_in _ (by omega)]; omega
        · show IntKind.i64.wrap (c6 - c8) ≤ 1048576; rw [IntWalk.i64_in _ (by omega)]; omega
        · show (s ++ t).size ≤ 4096; omega
        · show s.size ≤ (s ++ t).size; omega
        · show val a0 a1 a2 a3 + val b0 b1 b2 b3 ≤ ((s ++ t).size : Int); omega
  · have h := (q67 _ _).trans (T67 r109 r110 r83 r111 r112 r113 s a0 a1 a2 a3 b0 b1 b2 b3 _ fin _ e1 _ e2 _ e3 _ rfl _ rfl _ rfl _ rfl _ rfl)
    rcases spB h with ⟨hc, h⟩ | ⟨hc, h⟩
    · exact ⟨_, _, _, h, by omega, by omega, hs, by omega, fun _ h => absurd (hb0 hc) h⟩
    · cases o with
      | true => exact ⟨_, _, 3, h, by omega, by omega, hs, by omega, fun h => by omega⟩
      | false =>
        have hx : ilt 0 (cmpI (val s0 s1 s2 s3) 4096) = true := by rw [ilt_eq, decide_eq_true_eq]; simp at hend; omega
        have h : r67 [st s, U a0 a1 a2 a3, U b0 b1 b2 b3] [] = (bif ilt 0 (cmpI (val s0 s1 s2 s3) 4096) then _ else _) := h
        rw [hx] at h
        exact ⟨_, _, 3, h, by omega, by omega, hs, by omega, fun h => by omega⟩
theorem size_ex (s : ByteArray) {a b : Nat} (h : b ≤ s.size) : (s.extract a b).size = b - a := by rw [ByteArray.size_extract, Nat.min_eq_left h]
theorem w197 {s t : ByteArray} {n : Int} (hs : s.size ≤ 1048576) (ht : t.size ≤ 1048576) (h0 : -9223372036854775808 ≤ n) (h1 : n ≤ 9223372036854775807) : ∃ m, r197 [st s, i64 n, st t] [] = some (.ret (st m), []) ∧ m.size = s.size := by
  have h := (q197 _ _).trans (T197 s n t _ fin)
  rcases spB h with ⟨hc, h⟩ | ⟨hc, h⟩
  · exact ⟨_, h, rfl⟩
  · rw [ilt_eq, decide_eq_false_iff_not] at hc
    have e : IntKind.i64.wrap ((s.size : Int) - n) = s.size - n := IntWalk.i64_in _ (by omega)
    rcases spB h with ⟨hc2, h⟩ | ⟨hc2, h⟩
    · exact ⟨_, h, rfl⟩
    · rw [ilt_eq, decide_eq_false_iff_not, e] at hc2
      have e2 : IntKind.i64.wrap (n + (t.size : Int)) = n + t.size := IntWalk.i64_in _ (by omega)
      have z1 : (s.extract 0 n.toNat).size = n.toNat := by rw [size_ex s (by omega)]; rfl
      have z2 : (s.extract (n + (t.size : Int)).toNat s.size).size = s.size - (n + (t.size : Int)).toNat := size_ex s (Nat.le_refl _)
      have z3 : (s.extract 0 n.toNat ++ t).size = n.toNat + t.size := by rw [ByteArray.size_append, z1]
      rw [e2, z1, z2, z3] at h
      rw [show (decide (0 ≤ n) && decide (n ≤ (s.size : Int))) = true by simp; omega, show (n.toNat + t.size).ble 9223372036854775807 = true by rw [Nat.ble_eq]; omega,
        show (decide (0 ≤ n + (t.size : Int)) && decide (n + (t.size : Int) ≤ (s.size : Int))) = true by simp; omega, show (n.toNat + t.size + (s.size - (n + (t.size : Int)).toNat)).ble 9223372036854775807 = true by rw [Nat.ble_eq]; omega] at h
      exact ⟨_, h, by rw [ByteArray.size_append, z3, z2]; omega⟩
theorem w117 {s : ByteArray} {a0 a1 a2 a3 n : Int} (hs : s.size ≤ 1048576) (ha : R4 a0 a1 a2 a3) : ∃ t, r117 [st s, U a0 a1 a2 a3, i64 n] [] = some (.ret (st t), []) ∧ t.size = (if n ≤ 65536 then n.toNat else 0) := by
  have hz : IntKind.u64.wrap (s.size : Int) = s.size := IntWalk.u64_in _ (by omega)
  have e1 : r83 [u (IntKind.u64.wrap (s.size : Int))] [] = some (.ret (U (s.size : Int) 0 0 0), []) := by rw [hz]; exact w83 _
  have e2 := w110 ha (r4c (n := IntKind.u64.wrap (s.size : Int)) (r64w _))
  rw [val1, hz] at e2
  have key : ∀ (p : ByteArray), p.size ≤ s.size → 0 ≤ n → n ≤ 65536 → ∃ z, r112 [i64 (IntKind.i64.wrap (n - ((p.extract 0 (bif decide ((p.size : Int) < n) then (p.size : Int) else n).toNat).size : Int)))] [] = some (.ret (st z), []) ∧ (p.extract 0 (bif decide ((p.size : Int) < n) then (p.size : Int) else n).toNat).size + z.size = n.toNat ∧ (decide (0 ≤ (bif decide ((p.size : Int) < n) then (p.size : Int) else n)) && decide ((bif decide ((p.size : Int) < n) then (p.size : Int) else n) ≤ (p.size : Int))) = true := by
    intro p hp h0 h1
    have hm : (bif decide ((p.size : Int) < n) then (p.size : Int) else n) = min n p.size := by
      by_cases h : (p.size : Int) < n
      · rw [decide_eq_true h]; simp; omega
      · rw [decide_eq_false h]; simp; omega
    rw [hm]
    have hz2 : (p.extract 0 (min n (p.size : Int)).toNat).size = (min n (p.size : Int)).toNat := by rw [size_ex p (by omega)]; rfl
    rw [hz2, IntWalk.i64_in _ (by omega)]
    obtain ⟨z, e, _, hz3⟩ := w112 (n := n - ((min n (p.size : Int)).toNat : Int)) (by omega)
    exact ⟨z, e, by omega, by simp; omega⟩
  by_cases h0 : n < 0
  · have h := (q117 _ _).trans (T117 r110 r83 r112 s a0 a1 a2 a3 n _ fin _ rfl _ rfl _ rfl _ rfl)
    rw [show ilt n 0 = true by rw [ilt_eq, decide_eq_true_eq]; exact h0] at h
    exact ⟨_, h, by rw [if_pos (by omega)]; show 0 = _; omega⟩
  · by_cases h1 : 65536 < n
    · have h := (q117 _ _).trans (T117 r110 r83 r112 s a0 a1 a2 a3 n _ fin _ rfl _ rfl _ rfl _ rfl)
      rw [show ilt n 0 = false by rw [ilt_eq, decide_eq_false_iff_not]; exact h0, show ilt 65536 n = true by rw [ilt_eq, decide_eq_true_eq]; exact h1] at h
      exact ⟨_, h, by rw [if_neg (by omega)]; rfl⟩
    · rw [if_pos (by omega)]
      have hc : IntKind.i64.wrap a0 = a0 ∧ 0 ≤ a0 ∧ a0 ≤ s.size ∨ ¬ val a0 a1 a2 a3 < s.size := by
        by_cases h : val a0 a1 a2 a3 < s.size
        · left
          obtain ⟨⟨_, _⟩, ⟨_, _⟩, ⟨_, _⟩, ⟨_, _⟩⟩ := ha
          unfold val at h
          exact ⟨IntWalk.i64_in _ (by omega), by omega, by omega⟩
        · exact .inr h
      have g0 : ilt n 0 = false := by rw [ilt_eq, decide_eq_false_iff_not]; exact h0
      have g1 : ilt 65536 n = false := by rw [ilt_eq, decide_eq_false_iff_not]; exact h1
      by_cases hv : val a0 a1 a2 a3 < s.size
      · obtain ⟨hw, l0, l1⟩ := hc.resolve_right (fun h => h hv)
        obtain ⟨z4, e4, k4, d4⟩ := key (s.extract (IntKind.i64.wrap a0).toNat s.size) (by rw [size_ex s (Nat.le_refl _)]; omega) (by omega) (by omega)
        have h := (q117 _ _).trans (T117 r110 r83 r112 s a0 a1 a2 a3 n _ fin _ e1 _ e2 _ rfl _ e4)
        rw [g0, g1] at h
        have h : r117 [st s, U a0 a1 a2 a3, i64 n] [] = (bif ilt (cmpI (val a0 a1 a2 a3) (s.size : Int)) 0 then _ else _) := h
        rw [show ilt (cmpI (val a0 a1 a2 a3) (s.size : Int)) 0 = true by rw [ilt_eq, decide_eq_true_eq]; unfold cmpI; rw [if_neg (by omega), if_pos hv]; omega] at h
        have h : r117 [st s, U a0 a1 a2 a3, i64 n] [] = (bif decide (0 ≤ IntKind.i64.wrap a0) && decide (IntKind.i64.wrap a0 ≤ (s.size : Int)) then _ else _) := h
        rw [show (decide (0 ≤ IntKind.i64.wrap a0) && decide (IntKind.i64.wrap a0 ≤ (s.size : Int))) = true by rw [hw]; simp; omega, cond_true, d4] at h
        have h : r117 [st s, U a0 a1 a2 a3, i64 n] [] = (bif (((s.extract (IntKind.i64.wrap a0).toNat s.size).extract 0 (bif decide (((s.extract (IntKind.i64.wrap a0).toNat s.size).size : Int) < n) then ((s.extract (IntKind.i64.wrap a0).toNat s.size).size : Int) else n).toNat).size + z4.size).ble 9223372036854775807 then _ else _) := h
        rw [k4, show (n.toNat).ble 9223372036854775807 = true by rw [Nat.ble_eq]; omega] at h
        exact ⟨_, h, by rw [ByteArray.size_append]; exact k4⟩
      · obtain ⟨z3, e3, k3, d3⟩ := key (s.extract (Int.toNat (s.size : Int)) s.size) (by rw [size_ex s (Nat.le_refl _)]; omega) (by omega) (by omega)
        have h := (q117 _ _).trans (T117 r110 r83 r112 s a0 a1 a2 a3 n _ fin _ e1 _ e2 _ e3 _ rfl)
        rw [g0, g1] at h
        have h : r117 [st s, U a0 a1 a2 a3, i64 n] [] = (bif ilt (cmpI (val a0 a1 a2 a3) (s.size : Int)) 0 then _ else _) := h
        rw [show ilt (cmpI (val a0 a1 a2 a3) (s.size : Int)) 0 = false by rw [ilt_eq, decide_eq_false_iff_not]; unfold cmpI; split <;> first | omega | (rw [if_neg hv]; omega)] at h
        have h : r117 [st s, U a0 a1 a2 a3, i64 n] [] = (bif decide (0 ≤ (s.size : Int)) && decide ((s.size : Int) ≤ (s.size : Int)) then _ else _) := h
        rw [show (decide (0 ≤ (s.size : Int)) && decide ((s.size : Int) ≤ (s.size : Int))) = true by simp, cond_true, d3] at h
        have h : r117 [st s, U a0 a1 a2 a3, i64 n] [] = (bif (((s.extract (Int.toNat (s.size : Int)) s.size).extract 0 (bif decide (((s.extract (Int.toNat (s.size : Int)) s.size).size : Int) < n) then ((s.extract (Int.toNat (s.size : Int)) s.size).size : Int) else n).toNat).size + z3.size).ble 9223372036854775807 then _ else _) := h
        rw [k3, show (n.toNat).ble 9223372036854775807 = true by rw [Nat.ble_eq]; omega] at h
        exact ⟨_, h, by rw [ByteArray.size_append]; exact k3⟩
theorem w188 {a0 a1 a2 a3 b0 b1 b2 b3 : Int} (ha : R4 a0 a1 a2 a3) (hb : R4 b0 b1 b2 b3) : ∃ o, r188 [U a0 a1 a2 a3, U b0 b1 b2 b3] [] = some (.ret (bo o), []) :=
  ⟨_, (q188 _ _).trans (T188 r110 a0 a1 a2 a3 b0 b1 b2 b3 _ fin _ (w110 ⟨ha.h0, ha.h1, ha.h2, r64w _⟩ ⟨hb.h0, hb.h1, hb.h2, r64w _⟩))⟩
theorem w177 {a0 a1 a2 a3 : Int} : ∃ s0 s1 s2 s3, r177 [U a0 a1 a2 a3] [] = some (.ret (U s0 s1 s2 s3), []) ∧ R4 s0 s1 s2 s3 := by
  obtain ⟨_, _, _, _, e1, h1⟩ := w184 a0 a1 a2 a3
  obtain ⟨_, _, _, _, _, e3, h3, _⟩ := w109 h1 (r4c r64_1)
  exact ⟨_, _, _, _, (q177 _ _).trans (T177 r184 r83 r109 a0 a1 a2 a3 _ fin _ e1 _ (w83 1) _ e3), h3⟩
theorem w178 {a0 a1 a2 a3 : Int} : ∃ o, r178 [U a0 a1 a2 a3] [] = some (.ret (bo o), []) := ⟨_, (q178 _ _).trans (T178 a0 a1 a2 a3 _ fin)⟩
theorem w193 {a0 a1 a2 a3 n : Int} (ha : R4 a0 a1 a2 a3) (hn : 0 ≤ n) : ∃ s0 s1 s2 s3, r193 [U a0 a1 a2 a3, u n] [] = some (.ret (U s0 s1 s2 s3), []) ∧ R4 s0 s1 s2 s3 := by
  obtain ⟨_, _, _, _, e1, h1⟩ := w183 ha hn
  obtain ⟨o, e2⟩ := w178 (a0 := a0) (a1 := a1) (a2 := a2) (a3 := a3)
  obtain ⟨_, _, _, _, e3, h3⟩ := w184 0 0 0 0
  obtain ⟨_, _, _, _, e4, h4⟩ := w183 h3 hn
  obtain ⟨_, _, _, _, e5, h5⟩ := w184 _ _ _ _
  obtain ⟨_, _, _, _, e6, h6⟩ := w185 _ _ _ _ _ _ _ _
  have h := (q193 _ _).trans (T193 r183 r178 r184 r185 a0 a1 a2 a3 n _ fin _ e1 _ e2 _ e3 _ e4 _ e5 _ e6)
  cases o with
  | true => exact ⟨_, _, _, _, h, h6⟩
  | false => exact ⟨_, _, _, _, h, h1⟩
theorem w127 {a0 a1 a2 a3 b0 b1 b2 b3 : Int} (ha : R4 a0 a1 a2 a3) (hb : R4 b0 b1 b2 b3) : ∃ s0 s1 s2 s3, r127 [U a0 a1 a2 a3, U b0 b1 b2 b3] [] = some (.ret (U s0 s1 s2 s3), []) ∧ R4 s0 s1 s2 s3 := by
  have e2 := w110 ha (r4c (n := 31) (by constructor <;> omega))
  obtain ⟨_, _, _, _, e3, h3⟩ := w184 0 0 0 0
  obtain ⟨_, _, _, _, e4, h4⟩ := w183 h3 (r64w (248 - IntKind.u64.wrap (8 * a0))).1
  obtain ⟨_, _, _, _, e5, h5⟩ := w183 hb (r64w (IntKind.u64.wrap (8 * a0) + 7)).1
  obtain ⟨_, _, _, _, e6, h6⟩ := w186 b0 b1 b2 b3 _ _ _ _
  obtain ⟨_, _, _, _, e7, h7⟩ := w184 _ _ _ _
  obtain ⟨_, _, _, _, e8, h8⟩ := w185 b0 b1 b2 b3 _ _ _ _
  have h := (q127 _ _).trans (T127 r110 r83 r184 r183 r185 r186 a0 a1 a2 a3 b0 b1 b2 b3 _ fin _ (w83 31) _ e2 _ e3 _ e4 _ e5 _ e6 _ e7 _ e8)
  rcases spB (spT rfl (spT rfl h)) with ⟨_, h⟩ | ⟨_, h⟩
  · exact ⟨_, _, _, _, h, hb⟩
  · rcases spB (spT rfl (spT rfl (spT rfl h))) with ⟨_, h⟩ | ⟨_, h⟩
    · exact ⟨_, _, _, _, h, h8⟩
    · exact ⟨_, _, _, _, h, h6⟩
theorem w190 {a0 a1 a2 a3 b0 b1 b2 b3 : Int} (ha : R4 a0 a1 a2 a3) (hb : R4 b0 b1 b2 b3) : ∃ s0 s1 s2 s3, r190 [U a0 a1 a2 a3, U b0 b1 b2 b3] [] = some (.ret (U s0 s1 s2 s3), []) ∧ R4 s0 s1 s2 s3 := by
  have e2 := w110 ha (r4c (n := 32) (by constructor <;> omega))
  obtain ⟨_, _, _, _, e3, h3⟩ := w183 hb (r64w (248 - IntKind.u64.wrap (8 * a0))).1
  obtain ⟨_, _, _, _, e5, h5⟩ := w186 _ _ _ _ _ _ _ _
  have h := (q190 _ _).trans (T190 r110 r83 r183 r186 a0 a1 a2 a3 b0 b1 b2 b3 _ fin _ (w83 32) _ e2 _ e3 _ (w83 255) _ e5)
  rcases spB (spT rfl (spT rfl h)) with ⟨_, h⟩ | ⟨_, h⟩
  · exact ⟨_, _, _, _, h, r4_0⟩
  · exact ⟨_, _, _, _, h, h5⟩
theorem ilt_t {a b : Int} (h : a < b) : ilt a b = true := by rw [ilt_eq, decide_eq_true_eq]; exact h
theorem ilt_f {a b : Int} (h : b ≤ a) : ilt a b = false := by rw [ilt_eq, decide_eq_false_iff_not]; omega
theorem ile_t {a b : Int} (h : a ≤ b) : ile a b = true := by rw [ile_eq, decide_eq_true_eq]; exact h
theorem ile_f {a b : Int} (h : b < a) : ile a b = false := by rw [ile_eq, decide_eq_false_iff_not]; omega
theorem l170 (s : ByteArray) (hs : s.size ≤ 32) (m : Nat) : ∀ (d : Nat) (i a0 a1 a2 a3 : Int), 0 ≤ i → i ≤ s.size → s.size - i ≤ d → R4 a0 a1 a2 a3 → ∃ b0 b1 b2 b3, R4 b0 b1 b2 b3 ∧
    exec (E170_0 r191) (d + 60) 0 (.loop (rnd Tryz.f170 0)) ⟨[st s, J, .ptr 0 0, J, .ptr 1 0, J, J, J, J, J, J, i64 s.size, i64 i, J, J, J, J, J, J, J, J, J, J, J, J, J, J], [], 170, 0, false⟩ [.cells [u 0, u 0, u 0, u 0], .cells [u a0, u a1, u a2, u a3]] _ (bK (E170_0 r191) (m + 60) 0 finB) = some (.normal, ⟨[J, J, .ptr 0 0, J, .ptr 1 0, J, J, J, J, J, J, J, J, J, J, J, J, J, J, J, J, J, J, J, J, J, J], [], 170, 0, false⟩, [.cells [u 0, u 0, u 0, u 0], .cells [u b0, u b1, u b2, u b3]]) := by
  intro d
  induction d with
  | zero =>
    intro i a0 a1 a2 a3 h0 h1 h2 ha
    have h := T170_0r r191 s i s.size a0 a1 a2 a3 0 m _ finB _ rfl
    exact ⟨_, _, _, _, ha, h.trans (by rw [ilt_f (by omega)]; rfl)⟩
  | succ d ih =>
    intro i a0 a1 a2 a3 h0 h1 h2 ha
    obtain ⟨b0, b1, b2, b3, e1, hb⟩ := w191 ha (n := 8) (by omega)
    have h := T170_0r r191 s i s.size a0 a1 a2 a3 (d + 1) m _ finB _ e1
    by_cases hi : i < s.size
    · have e2 : IntKind.i64.wrap (i + 1) = i + 1 := IntWalk.i64_in _ (by omega)
      rw [ilt_t hi, e2] at h
      have h := spTB rfl (spTB rfl h)
      have h := spTB (by simp; omega) h
      obtain ⟨c0, c1, c2, c3, hc, e3⟩ := ih (i + 1) (IntKind.u64.wrap ((BitVec.ofInt IntKind.u64.bits b0 ||| BitVec.ofInt IntKind.u64.bits (IntKind.u64.wrap ((s.data.1.getD i.toNat 0).toNat : Int))).toNat : Int)) b1 b2 b3 (by omega) (by omega) (by omega) ⟨r64w _, hb.h1, hb.h2, hb.h3⟩
      exact ⟨c0, c1, c2, c3, hc, h.trans e3⟩
    · exact ⟨_, _, _, _, ha, h.trans (by rw [ilt_f (by omega)]; rfl)⟩
theorem w170 {s : ByteArray} : ∃ s0 s1 s2 s3 e, r170 [st s] [] = some (.ret (.tuple [U s0 s1 s2 s3, i64 e]), []) ∧ R4 s0 s1 s2 s3 := by
  by_cases hs : s.size ≤ 32
  · obtain ⟨b0, b1, b2, b3, hb, e⟩ := l170 s hs 139 139 0 0 0 0 0 (by omega) (by omega) (by omega) r4_0
    have h := (q170 _ _).trans (T170 r191 h170_0 s _ fin _ ((p170_0 _ _ 199 rfl).trans e))
    exact ⟨_, _, _, _, _, spT rfl (spF (ilt_f (by omega)) h), hb⟩
  · have h := (q170 _ _).trans (T170 r191 h170_0 s _ fin _ rfl)
    exact ⟨_, _, _, _, _, spT (ilt_t (by omega)) h, r4_0⟩
theorem w116 {s : ByteArray} : ∃ s0 s1 s2 s3, r116 [st s] [] = some (.ret (U s0 s1 s2 s3), []) ∧ R4 s0 s1 s2 s3 := by
  obtain ⟨_, _, _, _, _, e, h⟩ := w170 (s := s)
  exact ⟨_, _, _, _, (q116 _ _).trans (T116 r170 s _ fin _ e), h⟩
end Go.Proofs.Vm
end
section
namespace Go.Proofs.Vm
open Go Go.Abs
def Buf (w : World) (v : Value) (bs : List Value) : Prop :=
  (v = .slice none 0 0 ∧ bs = []) ∨ ∃ g cap cur, v = .slice (some ⟨g, 0, none⟩) bs.length cap ∧ w.heap[g]? = some (.cells cur 5 (0, 0)) ∧ cur.size = cap ∧ bs.length ≤ cap ∧ cur.toList.take bs.length = bs
theorem Buf.one {w : World} {v : Value} {bs : List Value} (h : Buf w v bs) : ∃ a cap, v = .slice a bs.length cap := by
  rcases h with ⟨rfl, rfl⟩ | ⟨g, cap, cur, rfl, _⟩
  · exact ⟨_, _, rfl⟩
  · exact ⟨_, _, rfl⟩
theorem Buf.of_block {w w' : World} {v : Value} {bs : List Value} (h : Buf w v bs) (hk : ∀ g, v.ownBlock = some g → w'.heap[g]? = w.heap[g]?) : Buf w' v bs := by
  rcases h with h | ⟨g, cap, cur, rfl, h1, h2⟩
  · exact .inl h
  · exact .inr ⟨g, cap, cur, rfl, (hk g rfl).trans h1, h2⟩
theorem heap_new (w : World) (o : Obj) : (w.alloc o).heap[w.heap.size]? = some o := by
  show (w.heap.push o)[w.heap.size]? = some o
  simp
theorem vrs_vals {φ : Emb} {L : Nat → Prop} {w : World} : ∀ {bs us : List Value}, VRs φ L w (bs.map AV.v) us → us = bs
  | [], us, h => by simpa [VRs] using h
  | b :: bs, us, h => by
    simp only [List.map_cons, VRs, VR] at h
    obtain ⟨x, xs, rfl, rfl, h⟩ := h
    rw [vrs_vals h]
theorem run_first {w : World} {g : Nat} {cur : Array Value} {t : TypeId} {fr : Nat × Nat} {bs : List Value} {cap : Nat} (hh : w.heap[g]? = some (.cells cur t fr)) (ht : cur.toList.take bs.length = bs) (h1 : ∀ u ∈ bs, oneV u = true) :
    (Builtin.firstCells 1 bs.length (.slice (some ⟨g, 0, none⟩) bs.length cap)).run P w = .ok bs.toArray w := by
  have hc : VRc (⟨fun _ => none, fun _ => False⟩ : Emb) (fun _ => False) w (bs.map AV.v) g 0 := by
    rw [VRc_block hh]
    intro i c hc
    rw [List.getElem?_map] at hc
    obtain ⟨u, hu, rfl⟩ := Option.map_eq_some_iff.1 hc
    refine ⟨u, ?_, h1 u (List.mem_of_getElem? hu), by simp [VR]⟩
    have := congrArg (fun l => l[i]?) ht
    simp only [List.getElem?_take, hu] at this
    split at this
    · simpa using this
    · cases this
  obtain ⟨us, hrun, h2, _⟩ := run_loadCells_VRc (P := P) hc
  rw [vrs_vals h2] at hrun
  simpa [Builtin.firstCells] using hrun
theorem app_run {w : World} {v x : Value} {bs news : List Value} (hv : Buf w v bs) {xt : TypeId} {xd : TypeDesc} (hx : P.underlying xt = some xd) (hxd : plainSrc xd = true)
    (hlen : ∀ W, (Builtin.lenOf x).run P W = .ok news.length W) (hnew : ∀ W : World, W.heap = w.heap → (Builtin.firstCells 1 news.length x).run P W = .ok news.toArray W) (h1 : ∀ u ∈ news, oneV u = true) (hb1 : ∀ u ∈ bs, oneV u = true)
    (h0 : news ≠ [] ∨ v ≠ .slice none 0 0) (hs : (bs.length + news.length) * 2 ≤ 2 ^ 46) :
    ∃ g' cap' cur' w', (Builtin.append_ #[69, xt] 69 #[v, x]).run P w = .ok (.slice (some ⟨g', 0, none⟩) (bs.length + news.length) cap') w' ∧ w'.heap[g']? = some (.cells cur' 5 (0, 0)) ∧ cur'.size = cap' ∧ bs.length + news.length ≤ cap' ∧
      cur'.toList.take (bs.length + news.length) = bs ++ news ∧ (g' = w.heap.size ∨ v.ownBlock = some g') ∧ Keep (fun k => v.ownBlock = some k) w w' := by
  obtain ⟨inf, zv, hi, hzv, hsz, hzs, hne⟩ := zeroOk_info (P := P) (e := 5) (by kernel_rfl)
  have hsz1 : inf.size = 1 := hsz.trans (by kernel_rfl)
  have hby : inf.bytes = 1 := by
    have h : P.bytesOf 5 = inf.bytes := by simp [Program.bytesOf, hi]
    exact h.symm.trans (by kernel_rfl)
  have hu : P.underlying 69 = some (.slice 5) := Tryz.underlying69
  have grow : ∀ (base : Option Addr) (cap : Nat) (old : List Value), v = .slice base bs.length cap → cap < bs.length + news.length → (Builtin.firstCells 1 bs.length (.slice base bs.length cap)).run P w.drew = .ok old.toArray w.drew → old = bs →
      ∃ cap' cur' w', (Builtin.append_ #[69, xt] 69 #[v, x]).run P w = .ok (.slice (some ⟨w.heap.size, 0, none⟩) (bs.length + news.length) cap') w' ∧ w'.heap[w.heap.size]? = some (.cells cur' 5 (0, 0)) ∧ cur'.size = cap' ∧ bs.length + news.length ≤ cap' ∧
      cur'.toList.take (bs.length + news.length) = bs ++ news ∧ Keep (fun k => v.ownBlock = some k) w w' := by
    intro base cap old hv hcap hold hob
    subst hv hob
    obtain ⟨cap', hc, hrun⟩ := append_grow (P := P) (w := w) (ty := 69) (ts := #[69, xt]) (st := 69) (e := 5) (xt := xt) (base := base) (n := old.length) (cap := cap) (x := x) (k := news.length) (new := news) rfl rfl hu hx hxd hi hzv hlen hcap (by rw [hby]; omega) (by rw [hsz1]; exact hold) (by rw [hsz1]; exact hnew w.drew rfl)
    refine ⟨cap', _, _, hrun, heap_new w.drew _, ?_, hc, ?_, ?_⟩
    · simp [Builtin.zeroCells, hzs, hsz1]; omega
    · simp only [Array.toList_append]
      rw [List.take_append_of_le_length (by simp), List.take_of_length_le (by simp)]
    · exact (Keep.drew _ w).trans (Keep.alloc (fun k => (Value.slice base old.length cap).ownBlock = some k) _ _) (fun i h => .inl h)
  rcases hv with ⟨rfl, rfl⟩ | ⟨g, cap, cur, rfl, hh, hcs, hle, htake⟩
  · have hn0 : news ≠ [] := h0.resolve_right (fun h => h rfl)
    have hn1 : 0 < news.length := List.length_pos_iff.2 hn0
    obtain ⟨cap', cur', w', h2, h3, h4, h5, h6, h7⟩ := grow none 0 [] rfl (by simpa using hn1) rfl rfl
    exact ⟨_, cap', cur', w', h2, h3, h4, h5, h6, .inl rfl, h7⟩
  · by_cases hroom : bs.length + news.length ≤ cap
    · have hst := run_storeCells_put (P := P) news 0 cur w g bs.length 5 (0, 0) hh (fun k _ h => by omega) (by rw [hcs]; omega) h1
      have hrun := append_room (P := P) (w := w) (ty := 69) (ts := #[69, xt]) (st := 69) (e := 5) (xt := xt) (base := some ⟨g, 0, none⟩) (n := bs.length) (cap := cap) (x := x) (k := news.length) (new := news) rfl rfl hu hx hxd hi hlen hroom (by rw [hsz1]; exact hnew w rfl) (by
        simp only [addr_add, hsz1]
        simpa using hst)
      have hlt : g < w.heap.size := (Array.getElem?_eq_some_iff.1 hh).1
      refine ⟨g, cap, _, _, hrun, putCells_same hlt, by rw [setA_size]; exact hcs, hroom, ?_, .inr rfl, putCells_keep rfl⟩
      apply List.ext_getElem?
      intro j
      rw [List.getElem?_take]
      have hget := setA_get news cur bs.length (by rw [hcs]; exact hroom) j
      rw [Array.getElem?_toList, hget]
      by_cases hj : j < bs.length
      · rw [if_pos (by omega), if_neg (by omega), List.getElem?_append_left hj, ← Array.getElem?_toList]
        have := congrArg (fun l => l[j]?) htake
        simp only [List.getElem?_take, hj, if_true] at this
        exact this
      · rw [List.getElem?_append_right (by omega)]
        by_cases hj2 : j < bs.length + news.length
        · rw [if_pos hj2, if_pos (by omega)]
        · rw [if_neg hj2, List.getElem?_eq_none (by omega)]
    · obtain ⟨cap', cur', w', h2, h3, h4, h5, h6, h7⟩ := grow (some ⟨g, 0, none⟩) cap bs rfl (by omega) (by
        have hd : w.drew.heap[g]? = some (.cells cur 5 (0, 0)) := hh
        exact run_first hd htake hb1) rfl
      exact ⟨_, cap', cur', w', h2, h3, h4, h5, h6, .inl rfl, h7⟩
abbrev selfP (b : Nat) : Value := .pointer (some ⟨b, 0, none⟩)
theorem copy202 {w : World} {b : Nat} {p v : Value} (hb : w.heap[b]? = some (.cells #[p, v] 147 (0, 0))) (hp : p = .pointer none ∨ p = selfP b) :
    Calls P 202 #[selfP b] w fun e w' => e = .returned (.tuple #[]) ∧ w'.heap[b]? = some (.cells #[selfP b, v] 147 (0, 0)) ∧ Keep (fun k => k = b) w w' := by
  have hlt : b < w.heap.size := (Array.getElem?_eq_some_iff.1 hb).1
  rcases hp with rfl | rfl
  · refine (Any.Builder_copyCheck_fresh (P := P) (ρ := Tryz.lays105_ren) { Tryz.lays105 with } Tryz.Builder_Extra_105.toX72 b w (by simp [World.cell?, hb]) (by simp [World.shape?, hb]; rfl) (by simp [World.frozen?, hb])).mono ?_
    rintro e w' ⟨rfl, rfl⟩
    refine ⟨rfl, ?_, Keep.setCell (L := fun k => k = b) (a := ⟨b, 0, none⟩) rfl _⟩
    simp only [World.setCell, Array.getElem?_modify, hb]
    simp
  · refine (Any.Builder_copyCheck_used (P := P) (ρ := Tryz.lays105_ren) { Tryz.lays105 with } Tryz.Builder_Extra_105.toX72 b w (by simp [World.cell?, hb])).mono ?_
    rintro e w' ⟨rfl, rfl⟩
    exact ⟨rfl, hb, Keep.refl _ _⟩
structure Wrote (w : World) (b : Nat) (v : Value) (bs : List Value) (w' : World) : Prop where
  ex : ∃ g cap cur, w'.heap[b]? = some (.cells #[selfP b, .slice (some ⟨g, 0, none⟩) bs.length cap] 147 (0, 0)) ∧ w'.heap[g]? = some (.cells cur 5 (0, 0)) ∧ cur.size = cap ∧ bs.length ≤ cap ∧ cur.toList.take bs.length = bs ∧ g ≠ b ∧
    (w.heap.size ≤ g ∨ v.ownBlock = some g)
  keep : Keep (fun k => k = b ∨ v.ownBlock = some k) w w'
theorem Wrote.of {w w1 w2 : World} {b : Nat} {v : Value} {bs news : List Value} {g cap : Nat} {cur : Array Value} (hk1 : Keep (fun k => k = b) w w1) (hb1 : w1.heap[b]? = some (.cells #[selfP b, v] 147 (0, 0))) (hne : v.ownBlock ≠ some b)
    {w0 : World} (hw0 : Keep (fun _ => False) w1 w0) (hk2 : Keep (fun k => v.ownBlock = some k) w0 w2) (hg : w2.heap[g]? = some (.cells cur 5 (0, 0))) (hcs : cur.size = cap) (hle : bs.length + news.length ≤ cap) (ht : cur.toList.take (bs.length + news.length) = bs ++ news) (hor : g = w0.heap.size ∨ v.ownBlock = some g) :
    Wrote w b v (bs ++ news) (w2.setCell ⟨b, 1, none⟩ (.slice (some ⟨g, 0, none⟩) (bs.length + news.length) cap)) ∧ w2.heap[b]? = some (.cells #[selfP b, v] 147 (0, 0)) := by
  have hlt : b < w1.heap.size := (Array.getElem?_eq_some_iff.1 hb1).1
  have hb0 : w0.heap[b]? = some (.cells #[selfP b, v] 147 (0, 0)) := (hw0.block b hlt (fun h => h)).trans hb1
  have hb2 : w2.heap[b]? = some (.cells #[selfP b, v] 147 (0, 0)) := (hk2.block b (Nat.lt_of_lt_of_le hlt hw0.size) hne).trans hb0
  have hgb : g ≠ b := by
    rcases hor with rfl | h
    · have := hw0.size; omega
    · intro e; rw [e] at h; exact hne h
  refine ⟨⟨⟨g, cap, cur, ?_, ?_, hcs, by simpa using hle, by simpa using ht, hgb, ?_⟩, ?_⟩, hb2⟩
  · simp only [World.setCell, Array.getElem?_modify, hb2]
    simp
  · rw [RowKit.Below.heap_setCell _ _ _ _ hgb]; exact hg
  · rcases hor with rfl | h
    · exact .inl (Nat.le_trans hk1.size hw0.size)
    · exact .inr h
  · have k1 : Keep (fun k => k = b ∨ v.ownBlock = some k) w w1 := hk1.mono fun _ _ h => .inl h
    have k2 : Keep (fun k => k = b ∨ v.ownBlock = some k) w1 w0 := hw0.mono fun _ _ h => h.elim
    have k3 : Keep (fun k => k = b ∨ v.ownBlock = some k) w0 w2 := hk2.mono fun _ _ h => .inr h
    exact ((k1.trans k2 fun _ h => .inl h).trans k3 fun _ h => .inl h).trans (Keep.setCell (L := fun k => k = b ∨ v.ownBlock = some k) (a := ⟨b, 1, none⟩) (.inl rfl) _) fun _ h => .inl h
theorem wpList_app {w : World} {ops : Array Oper} {rest : List Oper} {o : Oper} {a : Act} {Q : Exit → Act → World → Prop} (hgd : o.guard = none) (s x : Operand) (t t' : TypeId)
    (ho : o.op = .call { callee := .builtin .append, args := #[s, x], argTypes := #[t, t'] }) (v xv : Value) (hs : a.eval s = v) (hx : a.eval x = xv) {v' : Value} {w' : World}
    (hrun : (Builtin.append_ #[t, t'] o.type #[v, xv]).run P w = .ok v' w') (h : wpList P ops Q rest (a.put o.dst v') w') : wpList P ops Q (o :: rest) a w :=
  wpList_plain hgd fun _ hK => by
    unfold Oper.wp execOp
    simp only [ho, resolve, invoke, builtin, Sem.run_bind, Sem.run_pure, Result.andThen_ok, List.map_toArray, List.map_cons, List.map_nil, hs, hx, hrun]
    exact hK _ _ h
open Go.RowKit in
set_option maxHeartbeats 2000000 in
set_option maxRecDepth 100000 in
theorem walk196 {w : World} {b : Nat} {p v : Value} {bs : List Value} (c : Int) (hb : w.heap[b]? = some (.cells #[p, v] 147 (0, 0))) (hp : p = .pointer none ∨ p = selfP b) (hv : Buf w v bs) (hne : v.ownBlock ≠ some b)
    (h1 : ∀ u ∈ bs, oneV u = true) (hs : (bs.length + 1) * 2 ≤ 2 ^ 46) :
    Calls P 196 #[selfP b, .int .u8 c] w fun e w' => e = .returned .nilIface ∧ Wrote w b v (bs ++ [.int .u8 c]) w' := by
  have mixed : P.follows .mixedOrders = true := by kernel_rfl
  have e240 : ∀ args w, (callFunc 202 args).run P w = .ok (.enter 202 args) w := enters_of Tryz.func202 (by kernel_rfl) rfl
  go_enter Tryz.func196, Tryz.ntmps196
  go_wp2_with (go_at_fn 202; refine (copy202 hb hp).mono ?_)
  rintro e w1 ⟨rfl, hb1, hk1⟩
  have c0 : w1.cell? ⟨b, 0, none⟩ = some (selfP b) := by rw [Lib.cell_of_heap hb1]; rfl
  have c1 : w1.cell? ⟨b, 1, none⟩ = some v := by rw [Lib.cell_of_heap hb1]; rfl
  have hlt : b < w.heap.size := (Array.getElem?_eq_some_iff.1 hb).1
  have hv1 : Buf w1 v bs := hv.of_block fun g hg => by
    rcases hv with ⟨rfl, _⟩ | ⟨g', cap, cur, rfl, hh, _⟩
    · cases hg
    · exact hk1.block g (by cases hg; exact (Array.getElem?_eq_some_iff.1 hh).1) (fun e => hne (by rw [← e]; exact hg))
  have hlt1 : b < w1.heap.size := (Array.getElem?_eq_some_iff.1 hb1).1
  obtain ⟨w0, hw0⟩ : ∃ w0, w1.alloc (.cells #[.int .u8 c] 5) = w0 := ⟨_, rfl⟩
  have hkw0 : Keep (fun _ => False) w1 w0 := hw0 ▸ Keep.alloc _ _ _
  have hv0 : Buf w0 v bs := hv1.of_block fun g hg => by
    rcases hv1 with ⟨rfl, _⟩ | ⟨g', cap, cur, rfl, hh, _⟩
    · cases hg
    · exact hkw0.block g (by cases hg; exact (Array.getElem?_eq_some_iff.1 hh).1) (fun h => h)
  have hnew : ∀ W : World, W.heap = w0.heap → (Builtin.firstCells 1 1 (.slice (some ⟨w1.heap.size, 0, none⟩) 1 1)).run P W = .ok #[.int .u8 c] W := fun W hW => by
    have hh : W.heap[w1.heap.size]? = some (.cells #[.int .u8 c] 5 (0, 0)) := by rw [hW, ← hw0]; exact heap_new w1 _
    exact run_first (bs := [.int .u8 c]) hh rfl (by simp [oneV])
  obtain ⟨g, cap, cur, w2, hrun, hg, hcs, hle, ht, hor, hk2⟩ := app_run (x := .slice (some ⟨w1.heap.size, 0, none⟩) 1 1) (news := [.int .u8 c]) hv0 Tryz.underlying69 rfl (fun _ => rfl) hnew (by simp [oneV]) h1 (.inl (by simp)) (by simpa using hs)
  obtain ⟨hW, hb2⟩ := Wrote.of hk1 hb1 hne hkw0 hk2 hg hcs hle ht hor
  have d0 : w2.cell? ⟨b, 0, none⟩ = some (selfP b) := by rw [Lib.cell_of_heap hb2]; rfl
  have d1 : w2.cell? ⟨b, 1, none⟩ = some v := by rw [Lib.cell_of_heap hb2]; rfl
  have f1 : w2.frozen? ⟨b, 1, none⟩ = false := Lib.frozen_of_heap hb2 1
  have A : Aside (Wrote w b v (bs ++ [.int .u8 c]) (w2.setCell ⟨b, 1, none⟩ (.slice (some ⟨g, 0, none⟩) (bs.length + 1) cap))) := hW
  have B1 : Aside ((Builtin.append_ #[69, 69] 69 #[v, .slice (some ⟨w1.heap.size, 0, none⟩) 1 1]).run P w0 = .ok (.slice (some ⟨g, 0, none⟩) (bs.length + 1) cap) w2) := hrun
  clear hW hrun hg hcs hle ht hor hk2 hv hv0 hv1 hnew hk1 hkw0 hp hb hne h1
  go_wp2_with (at_builtin; refine wpList_app rfl _ _ 69 69 rfl _ _ rfl rfl B1.out ?_)
  go_wp2
  go_ret
  exact ⟨rfl, A.out⟩
theorem keep_freeze (w : World) (g n : Nat) : Keep (fun k => k = g) w (w.drew.freeze ⟨g, 0, none⟩ n) := by
  refine (Keep.drew (fun k => k = g) w).trans ?_ fun _ h => .inl h
  generalize w.drew = W
  unfold World.freeze
  split
  · exact Keep.refl _ _
  · refine ⟨rfl, rfl, rfl, by simp, fun k _ hk => ?_⟩
    simp only [Array.getElem?_modify]
    rw [if_neg (fun h => hk (Eq.symm h))]
theorem firstCells_str (t : ByteArray) (W : World) : (Builtin.firstCells 1 (byteCells t).length (.string t)).run P W = .ok (byteCells t).toArray W := by
  obtain ⟨_, us, h1, h2, _⟩ := elems_cells (P := P) (w := W) (d := 1) (u := .string t) (φ := ⟨fun _ => none, fun _ => False⟩) (L := fun _ => False) (es := t.data.toList.map fun b => [.v (.int .u8 b.toNat)]) ⟨fun e he => by
    simp only [List.mem_map] at he
    obtain ⟨b, _, rfl⟩ := he
    exact ⟨rfl, rfl⟩, .inr (.inl ⟨t, rfl, rfl, rfl⟩)⟩
  have h3 : (t.data.toList.map fun b => ([.v (.int .u8 b.toNat)] : List AV)).flatten = (byteCells t).map AV.v := by
    unfold byteCells
    induction t.data.toList with
    | nil => rfl
    | cons b l ih => simp only [List.map_cons, List.flatten_cons, ih]; rfl
  rw [h3] at h2
  rw [vrs_vals h2] at h1
  simpa [byteCells] using h1
theorem lenOf_str (t : ByteArray) (W : World) : (Builtin.lenOf (.string t)).run P W = .ok (byteCells t).length W := by
  simp [Builtin.lenOf, byteCells]
open Go.RowKit in
set_option maxHeartbeats 2000000 in
set_option maxRecDepth 100000 in
theorem walk134 {w : World} {b : Nat} {p v : Value} {bs : List Value} (t : ByteArray) (hb : w.heap[b]? = some (.cells #[p, v] 147 (0, 0))) (hp : p = .pointer none ∨ p = selfP b) (hv : Buf w v bs) (hne : v.ownBlock ≠ some b)
    (h1 : ∀ u ∈ bs, oneV u = true) (h0 : t.size ≠ 0) (hs : (bs.length + t.size) * 2 ≤ 2 ^ 46) :
    Calls P 134 #[selfP b, .string t] w fun e w' => e = .returned (.tuple #[.int .i64 t.size, .nilIface]) ∧ Wrote w b v (bs ++ byteCells t) w' := by
  have mixed : P.follows .mixedOrders = true := by kernel_rfl
  have e240 : ∀ args w, (callFunc 202 args).run P w = .ok (.enter 202 args) w := enters_of Tryz.func202 (by kernel_rfl) rfl
  have hbl : (byteCells t).length = t.size := by simp [byteCells]
  have hbo : ∀ u ∈ byteCells t, oneV u = true := fun u hu => by
    simp only [byteCells, List.mem_map] at hu
    obtain ⟨_, _, rfl⟩ := hu
    rfl
  go_enter Tryz.func134, Tryz.ntmps134
  go_wp2_with (go_at_fn 202; refine (copy202 hb hp).mono ?_)
  rintro e w1 ⟨rfl, hb1, hk1⟩
  have c0 : w1.cell? ⟨b, 0, none⟩ = some (selfP b) := by rw [Lib.cell_of_heap hb1]; rfl
  have c1 : w1.cell? ⟨b, 1, none⟩ = some v := by rw [Lib.cell_of_heap hb1]; rfl
  have hlt : b < w.heap.size := (Array.getElem?_eq_some_iff.1 hb).1
  have hv1 : Buf w1 v bs := hv.of_block fun g hg => by
    rcases hv with ⟨rfl, _⟩ | ⟨g', cap, cur, rfl, hh, _⟩
    · cases hg
    · exact hk1.block g (by cases hg; exact (Array.getElem?_eq_some_iff.1 hh).1) (fun e => hne (by rw [← e]; exact hg))
  obtain ⟨g, cap, cur, w2, hrun, hg, hcs, hle, ht, hor, hk2⟩ := app_run (x := .string t) (news := byteCells t) hv1 Tryz.underlying9 rfl (lenOf_str t) (fun W _ => firstCells_str t W) hbo h1 (.inl (by intro h; rw [h] at hbl; exact h0 hbl.symm)) (by rw [hbl]; exact hs)
  obtain ⟨hW, hb2⟩ := Wrote.of hk1 hb1 hne (Keep.refl _ w1) hk2 hg hcs hle ht hor
  rw [hbl] at hrun hW
  have d0 : w2.cell? ⟨b, 0, none⟩ = some (selfP b) := by rw [Lib.cell_of_heap hb2]; rfl
  have d1 : w2.cell? ⟨b, 1, none⟩ = some v := by rw [Lib.cell_of_heap hb2]; rfl
  have f1 : w2.frozen? ⟨b, 1, none⟩ = false := Lib.frozen_of_heap hb2 1
  have A : Aside (Wrote w b v (bs ++ byteCells t) (w2.setCell ⟨b, 1, none⟩ (.slice (some ⟨g, 0, none⟩) (bs.length + t.size) cap))) := hW
  have B1 : Aside ((Builtin.append_ #[69, 9] 69 #[v, .string t]).run P w1 = .ok (.slice (some ⟨g, 0, none⟩) (bs.length + t.size) cap) w2) := hrun
  clear hW hrun hg hcs hle ht hor hk2 hv hv1 hk1 hp hb hne h1 hbl hbo h0 hs
  go_wp2_with (at_builtin; refine wpList_app rfl _ _ 69 9 rfl _ _ rfl rfl B1.out ?_)
  go_wp2
  go_ret2
  exact ⟨rfl, A.out⟩
open Go.RowKit in
set_option maxHeartbeats 2000000 in
set_option maxRecDepth 100000 in
theorem walk136 {w : World} {b : Nat} {p : Value} {a : Option Addr} {n cap : Nat} (hb : w.heap[b]? = some (.cells #[p, .slice a n cap] 147 (0, 0))) :
    Calls P 136 #[selfP b] w fun e w' => e = .returned (.int .i64 n) ∧ w' = w := by
  have mixed : P.follows .mixedOrders = true := by kernel_rfl
  have c1 : w.cell? ⟨b, 1, none⟩ = some (.slice a n cap) := by rw [Lib.cell_of_heap hb]; rfl
  go_enter Tryz.func136, Tryz.ntmps136
  go_wp2
  go_ret
  exact ⟨rfl, rfl⟩
open Go.RowKit in
set_option maxHeartbeats 2000000 in
set_option maxRecDepth 100000 in
theorem walk138 {w : World} {b g cap : Nat} {p : Value} {cur : Array Value} (t : ByteArray) (hb : w.heap[b]? = some (.cells #[p, .slice (some ⟨g, 0, none⟩) t.size cap] 147 (0, 0))) (hg : w.heap[g]? = some (.cells cur 5 (0, 0))) (hcs : cur.size = cap) (hle : t.size ≤ cap)
    (ht : cur.toList.take t.size = byteCells t) (h0 : t.size ≠ 0) (h63 : t.size ≤ 9223372036854775807) :
    Calls P 138 #[selfP b] w fun e w' => e = .returned (.string t) ∧ Keep (fun k => k = g) w w' := by
  have mixed : P.follows .mixedOrders = true := by kernel_rfl
  have c1 : w.drew.cell? ⟨b, 1, none⟩ = some (.slice (some ⟨g, 0, none⟩) t.size cap) := by
    have : w.drew.heap[b]? = some (.cells #[p, .slice (some ⟨g, 0, none⟩) t.size cap] 147 (0, 0)) := hb
    rw [Lib.cell_of_heap this]; rfl
  have hg' : w.drew.heap[g]? = some (.cells cur 5 (0, 0)) := hg
  have hSD : (Builtin.unsafeSliceData_ #[69] 196 #[.slice (some ⟨g, 0, none⟩) t.size cap]).run P w.drew = .ok (.pointer (some ⟨g, 0, none⟩)) w.drew :=
    Lib.run_unsafeSliceData_row _ _ _ _ _ _ (by omega)
  have hUS : (Builtin.unsafeString_ #[196, 3] 9 #[.pointer (some ⟨g, 0, none⟩), .int .i64 t.size]).run P w.drew = .ok (.string t) (w.drew.freeze ⟨g, 0, none⟩ t.size) := by
    have h := Lib.run_unsafeString_row (P := P) w.drew 196 3 9 5 Tryz.underlying196 (by kernel_rfl) g cur.size (by simp [World.shape?, hg']) t.data.toList (by
      intro h
      have : t.data.toList.length = t.size := by simp
      rw [h] at this; exact h0 this.symm) (by rw [hcs]; simpa using hle) (by simpa using h63) (fun j x hx => by
        have hj : j < t.size := by
          have : t.data.toList.length = t.size := by simp
          rcases Nat.lt_or_ge j t.size with h' | h'
          · exact h'
          · rw [List.getElem?_eq_none (by omega)] at hx; cases hx
        have h2 := congrArg (fun l => l[j]?) ht
        simp only [List.getElem?_take, hj, if_true, byteCells, List.getElem?_map, hx, Option.map_some] at h2
        rw [addr_add]
        simp only [World.cell?, hg', Nat.zero_add]
        simpa using h2)
    have e1 : (t.data.toList.length : Nat) = t.size := by simp
    rw [e1] at h
    have e2 : (⟨t.data.toList.toArray⟩ : ByteArray) = t := by simp
    rw [e2] at h
    exact h
  go_enter Tryz.func138, Tryz.ntmps138
  go_wp2
  go_region_o
  all_goals (go_wp2; go_ret; refine ⟨rfl, keep_freeze _ _ _⟩)
open Go.RowKit in
set_option maxHeartbeats 2000000 in
set_option maxRecDepth 100000 in
theorem walk138nil {w : World} {b : Nat} {p : Value} (hb : w.heap[b]? = some (.cells #[p, .slice none 0 0] 147 (0, 0))) :
    Calls P 138 #[selfP b] w fun e w' => e = .returned (.string .empty) ∧ Keep (fun _ => False) w w' := by
  have mixed : P.follows .mixedOrders = true := by kernel_rfl
  have hSD : (Builtin.unsafeSliceData_ #[69] 196 #[.slice none 0 0]).run P w.drew = .ok (.pointer none) w.drew := rfl
  have hUS : (Builtin.unsafeString_ #[196, 3] 9 #[.pointer none, .int .i64 0]).run P w.drew = .ok (.string .empty) w.drew := Any.unsafeString_none (P := P) (ρ := Tryz.lays105_ren) { Tryz.lays105 with } Tryz.Builder_Extra_105 w.drew none
  have c1 : w.drew.cell? ⟨b, 1, none⟩ = some (.slice none 0 0) := by
    have : w.drew.heap[b]? = some (.cells #[p, .slice none 0 0] 147 (0, 0)) := hb
    rw [Lib.cell_of_heap this]; rfl
  go_enter Tryz.func138, Tryz.ntmps138
  go_wp2
  go_region_o
  all_goals (go_wp2; go_ret; exact ⟨rfl, Keep.drew _ _⟩)
end Go.Proofs.Vm
end
