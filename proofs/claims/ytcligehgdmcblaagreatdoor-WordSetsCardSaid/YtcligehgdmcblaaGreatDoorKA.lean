/-
  A part of the proof: what a run of the translated code computes, over values and objects of its own, and that the run of the model does the same. Conditions: those of each theorem.
-/
import Derived.WalkKit
import Derived.Laws.StructEq
import Derived.Laws.BytesString
set_option linter.unusedSimpArgs false
set_option linter.unusedVariables false
namespace Det
open Go

inductive PT (α : Type) where
  | nil
  | node (v : Option α) (l r : PT α)

namespace PT
variable {α : Type}
def get : PT α → Nat → Option α
  | .nil, _ => none
  | .node v _ _, 0 => v
  | .node _ l r, n + 1 => bif Nat.beq (n % 2) 0 then l.get (n / 2) else r.get (n / 2)
def val : PT α → Option α | .nil => none | .node v _ _ => v
def left : PT α → PT α | .nil => .nil | .node _ l _ => l
def right : PT α → PT α | .nil => .nil | .node _ _ r => r
def setF : Nat → PT α → Nat → α → PT α
  | 0, t, _, _ => t
  | _ + 1, t, 0, a => .node (some a) t.left t.right
  | f + 1, t, n + 1, a => bif Nat.beq (n % 2) 0 then .node t.val (setF f t.left (n / 2) a) t.right else .node t.val t.left (setF f t.right (n / 2) a)
def set (t : PT α) (n : Nat) (a : α) : PT α := setF (n + 1) t n a

theorem get_zero (t : PT α) : t.get 0 = t.val := by cases t <;> rfl
theorem get_succ (t : PT α) (n : Nat) : t.get (n + 1) = bif Nat.beq (n % 2) 0 then t.left.get (n / 2) else t.right.get (n / 2) := by
  cases t with
  | nil => simp [get, left, right]
  | node v l r => rfl

theorem get_setF (f : Nat) : ∀ (t : PT α) (n : Nat) (a : α) (m : Nat), n < f → (setF f t n a).get m = if m = n then some a else t.get m := by
  induction f with
  | zero => intro t n a m h; omega
  | succ f ih =>
    intro t n a m h
    cases n with
    | zero =>
      cases m with
      | zero => simp [setF, get]
      | succ m => rw [if_neg (by omega), get_succ, get_succ]; rfl
    | succ n =>
      cases hb : Nat.beq (n % 2) 0 with
      | true =>
        have h2 : n % 2 = 0 := Nat.eq_of_beq_eq_true hb
        simp only [setF, hb, cond_true]
        cases m with
        | zero => rw [if_neg (by omega)]; simp [get, get_zero]
        | succ m =>
          rw [get_succ, get_succ]
          cases hm : Nat.beq (m % 2) 0 with
          | true =>
            have hm2 : m % 2 = 0 := Nat.eq_of_beq_eq_true hm
            simp only [cond_true, left]
            rw [ih _ _ _ _ (by omega)]
            by_cases e : m = n
            · subst e; simp
            · rw [if_neg (by omega), if_neg (by omega)]
          | false =>
            have hm2 : ¬ m % 2 = 0 := fun e => by rw [e] at hm; cases hm
            simp only [cond_false, right]
            rw [if_neg (by omega)]
      | false =>
        have h2 : ¬ n % 2 = 0 := fun e => by rw [e] at hb; cases hb
        simp only [setF, hb, cond_false]
        cases m with
        | zero => rw [if_neg (by omega)]; simp [get, get_zero]
        | succ m =>
          rw [get_succ, get_succ]
          cases hm : Nat.beq (m % 2) 0 with
          | true =>
            have hm2 : m % 2 = 0 := Nat.eq_of_beq_eq_true hm
            simp only [cond_true, left]
            rw [if_neg (by omega)]
          | false =>
            have hm2 : ¬ m % 2 = 0 := fun e => by rw [e] at hm; cases hm
            simp only [cond_false, right]
            rw [ih _ _ _ _ (by omega)]
            by_cases e : m = n
            · subst e; simp
            · rw [if_neg (by omega), if_neg (by omega)]

theorem get_set (t : PT α) (n : Nat) (a : α) (m : Nat) : (t.set n a).get m = if m = n then some a else t.get m :=
  get_setF (n + 1) t n a m (by omega)
theorem get_set_same (t : PT α) (n : Nat) (a : α) : (t.set n a).get n = some a := by rw [get_set, if_pos rfl]
theorem get_set_ne (t : PT α) {n m : Nat} (a : α) (h : m ≠ n) : (t.set n a).get m = t.get m := by rw [get_set, if_neg h]
theorem get_nil (n : Nat) : (nil : PT α).get n = none := rfl
end PT

inductive AV where
  | bool (b : Bool)
  | int (k : IntKind) (n : Int)
  | str (s : List UInt8)
  | ptr (id off : Nat)
  | rop (cells : List AV) (off : Nat)
  | nilp
  | nils
  | sl (xs : List AV) (ex : Bool)
  | arr (id off len : Nat) (k : Option Nat)
  | fn (f : FuncId) (first captured : List AV)
  | nilf
  | iface (t : TypeId) (v : AV)
  | nili
  | agg (cells : List AV)
  | tup (vs : List AV)
  | mp (id : Nat)
  | nilm
  deriving Inhabited

def ksz : Option Nat → Nat | none => 1 | some n => n

def AV.cells : AV → List AV
  | .agg cs => cs
  | v => [v]

inductive HO where
  | cells (es : List AV)
  | iter (s : List UInt8) (pos : Nat)
  | map (es : List (AV × AV))
  | dead

inductive Opd where
  | t (n : Nat)
  | c (v : AV)

inductive EqD where
  | int | str | bool | ptr | nilsl | nilf
  | iface (nn : Bool)   -- nn: two nils may meet
  | struct (fs : List (Nat × Option Nat × EqD))   -- where a field begins, its kind
  | bad

inductive DOp where
  | move
  | pre (m : Nat) (z : List AV)   -- laid ahead of a region that draws its order
  | pick
  | alloc (z : List AV)
  | box
  | build (z : List AV) (ps : List (Nat × Nat))
  | buildSlice (k : Option Nat) (z : List AV) (len : Nat) (ps : List Nat) (fz : Bool)
  | load (k : Option Nat)
  | store (n : Nat)
  | nilCheck
  | bin (op : BinOp)
  | eq (d : EqD) (neg : Bool)
  | un (op : UnOp)
  | convInt (k : IntKind)
  | intStr
  | strStr
  | strBytes
  | bytesStr
  | runesStr
  | mkIface (t : TypeId)
  | mkFn (f : FuncId) (n : Nat)
  | makeSlice (k : Option Nat) (z : List AV)
  | sliceStr (lo hi : Bool)
  | slice (k : Option Nat) (lo hi mx : Bool)
  | sliceArr (n : Nat) (k : Option Nat) (lo hi : Bool)
  | fieldAddr (off : Nat)
  | field (k : Option Nat) (off : Nat)
  | indexAddr (k : Option Nat)
  | indexArr (n s : Nat)
  | indexStr
  | indexAgg (n : Nat) (k : Option Nat)
  | range
  | next
  | assertT (a : TypeId) (z : AV) (o : Bool)
  | extract (i : Nat)
  | len (s : Bool)   -- of a string, of a slice
  | append (k : Option Nat)
  | copy (k : Option Nat)
  | clear (k : Option Nat) (z : List AV)
  | min
  | max
  | callF (f : FuncId)
  | callV
  | bad (why : String)

structure DOper where
  dst : Option Nat
  op : DOp
  args : List Opd
  guard : Option (Nat × Bool)     -- the slot of the guard, the bool

inductive DCode where
  | skip
  | ops (l : List DOper)
  | draw (l : List DOper) (rd st al : List (Nat × Nat))
  | seq (a b : DCode)
  | cond (x : Opd) (a b : DCode)
  | block (id : Nat) (b : DCode)
  | loop (b : DCode)
  | exit (id : Nat)
  | ret
  | bad (why : String)

structure DFun where
  nparams : Nat
  ntmps : Nat
  body : DCode
  results : List (Nat × Option (Option Nat))   -- a slot; or a cell's kind behind the slot
  freezeArg : Bool
  freezeRet : Bool
  freezePtr : Bool

-- ------------------------------------------------------------------ from the loaded code

structure Pol where
  noFA : List Nat
  noFR : List Nat
  fP : List Nat
  noFB : List Nat

def mem (n : Nat) : List Nat → Bool
  | [] => false
  | x :: xs => bif Nat.beq n x then true else mem n xs

mutual
def ofV : Value → Option AV
  | .bool b => some (.bool b)
  | .int k n => some (.int k n)
  | .string s => some (.str s.data.toList)
  | .pointer none => some .nilp
  | .slice none 0 0 => some .nils
  | .nilFunc => some .nilf
  | .nilIface => some .nili
  | .agg ⟨cs⟩ => (ofVs cs).map .agg
  | .tuple ⟨vs⟩ => (ofVs vs).map .tup
  | _ => none
def ofVs : List Value → Option (List AV)
  | [] => some []
  | v :: vs => match ofV v, ofVs vs with
    | some a, some b => some (a :: b)
    | _, _ => none
end

/-- package variables: what they hold, by number -/
abbrev GT := Nat → Option (List AV)

section
variable (GC : GT)
def opd : Operand → Option Opd
  | .tmp t => some (.t t)
  | .const v => (ofV v).map .c
  | .global g => (GC g).map fun cs => .c (.rop cs 0)
  | .func f => some (.c (.fn f [] []))

def opds : List Operand → Option (List Opd)
  | [] => some []
  | x :: xs => match opd GC x, opds xs with
    | some a, some b => some (a :: b)
    | _, _ => none

variable (T : PT TypeInfo) (E : List Nat)

def under (t : TypeId) : TypeDesc :=
  match T.get t with
  | some { desc := .named _ u, .. } => (match T.get u with | some i => i.desc | none => .invalid)
  | some i => i.desc
  | none => .invalid
def size (t : TypeId) : Nat := match T.get t with | some i => i.size | none => 0
/-- the kind of a variable of a type: one cell, or an aggregate of so many (not of none) -/
def kindOf (t : TypeId) : Option (Option Nat) :=
  match under T t with
  | .invalid => none
  | .struct _ => (bif Nat.beq (size T t) 0 then none else some (some (size T t)))
  | .array .. => (bif Nat.beq (size T t) 0 then none else some (some (size T t)))
  | _ => (bif Nat.beq (size T t) 1 then some none else none)
def zeroAV (t : TypeId) : Option AV := match T.get t with | some { zero := some v, .. } => ofV v | _ => none
def zcells (t : TypeId) : Option (List AV) := match zeroAV T t with | some v => some v.cells | none => none

/-- how a field of a compared struct is compared -/
def eqF (t : TypeId) : EqD := match under T t with
  | .int _ => .int
  | .string => .str
  | .bool => .bool
  | _ => .bad
def EqD.flat : EqD → Bool | .int => true | .str => true | .bool => true | _ => false
/-- fields that hold plain values, none of them blank -/
def flats : List Field → Bool
  | [] => true
  | f :: r => (kindOf T f.type).isSome && f.name != "_" && (eqF T f.type).flat && flats r
/-- E: the struct types that may be compared -/
def eqD (t : TypeId) (lit nl : Bool) : EqD := match under T t with
  | .int _ => .int
  | .string => .str
  | .bool => .bool
  | .pointer _ => .ptr
  | .interface ms => .iface (lit || ms.isEmpty)
  | .slice _ => bif nl then .nilsl else .bad
  | .func .. => .nilf
  | .struct fs => bif mem t E && flats T fs.toList then .struct (fs.toList.map fun f => (f.offset, (kindOf T f.type).getD none, eqF T f.type)) else .bad
  | _ => .bad

/-- an operation, its operands -/
abbrev Comp := Option (DOp × List Opd)
def c1 (o : DOp) (x : Operand) : Comp := match opd GC x with | some x => some (o, [x]) | none => none
def c2 (o : DOp) (x y : Operand) : Comp := match opd GC x, opd GC y with | some x, some y => some (o, [x, y]) | _, _ => none
def c3 (o : DOp) (x y z : Operand) : Comp := match opd GC x, opd GC y, opd GC z with | some x, some y, some z => some (o, [x, y, z]) | _, _, _ => none
def cs (o : DOp) (l : List Operand) : Comp := match opds GC l with | some l => some (o, l) | none => none

def places (fs : Array Field) : List Nat → Option (List (Nat × Nat))
  | [] => some []
  | i :: r => match fs[i]?, places fs r with
    | some f, some l => some ((f.offset, size T f.type) :: l)
    | _, _ => none

/-- a variable of the type has few bytes -/
def smallB (t : TypeId) : Bool := match T.get t with | some i => Nat.ble i.bytes 65536 | none => false
/-- all have rows -/
def rows : List Field → Bool
  | [] => true
  | f :: r => (T.get f.type).isSome && rows r
def elemOf (t : TypeId) : Option TypeId := match under T t with | .slice e => some e | _ => none

/-- what is appended is no count of zeros -/
def noCount : List TypeId → Bool
  | [] => true
  | t :: _ => match under T t with | .int _ => false | .invalid => false | _ => true
def compBuiltin (b : Builtin) (ts : List TypeId) (args : List Operand) : Comp :=
  match b, ts, args with
  | .len, t :: _, [x] => (match under T t with
    | .string => c1 GC (.len true) x
    | .slice _ => c1 GC (.len false) x
    | _ => none)
  | .append, t :: r, [x, y] => (match elemOf T t with
    | some e => (match kindOf T e, zcells T e, smallB T e && noCount T r with | some k, some z, true => bif Nat.beq z.length (ksz k) then c2 GC (.append k) x y else none | _, _, _ => none)
    | none => none)
  | .copy, t :: _, [x, y] => (match elemOf T t with
    | some e => (match kindOf T e with | some k => c2 GC (.copy k) x y | none => none)
    | none => none)
  | .clear, t :: _, [x] => (match elemOf T t with
    | some e => (match kindOf T e, zcells T e with | some k, some z => bif Nat.beq z.length (ksz k) then c1 GC (.clear k z) x else none | _, _ => none)
    | none => none)
  | .min, _, [x, y] => c2 GC .min x y
  | .max, _, [x, y] => c2 GC .max x y
  | _, _, _ => none

def compSlice (t : TypeId) (x : Operand) (lo hi mx : Option Operand) : Comp :=
  let l := x :: (lo.toList ++ hi.toList ++ mx.toList)
  match under T t with
  | .string => bif mx.isNone then cs GC (.sliceStr lo.isSome hi.isSome) l else none
  | .slice e => (match kindOf T e with | some k => cs GC (.slice k lo.isSome hi.isSome mx.isSome) l | none => none)
  | .array n e => bif mx.isNone then (match kindOf T e with | some k => cs GC (.sliceArr n k lo.isSome hi.isSome) l | none => none) else none
  | .pointer a => (match under T a with
    | .array n e => bif mx.isNone then (match kindOf T e with | some k => cs GC (.sliceArr n k lo.isSome hi.isSome) l | none => none) else none
    | _ => none)
  | _ => none

def compConv (s d : TypeId) (x : Operand) : Comp :=
  match under T s, under T d with
  | .int _, .int k => c1 GC (.convInt k) x
  | .int _, .string => c1 GC .intStr x
  | .string, .string => c1 GC .strStr x
  | .string, .slice e => (match under T e with | .int .u8 => c1 GC .strBytes x | _ => none)
  | .slice e, .string => (match under T e with | .int .u8 => c1 GC .bytesStr x | .int .i32 => c1 GC .runesStr x | _ => none)
  | _, _ => none

def lit : Operand → Bool | .const _ => true | _ => false
def nilC : Operand → Bool | .const (.slice none _ _) => true | _ => false

def compOp (fz : Bool) : Op → Comp
  | .move x => c1 GC .move x
  | .assign x => c1 GC .move x
  | .pick c a b => c3 GC .pick c a b
  | .alloc t => (match zcells T t with | some z => some (.alloc z, []) | none => none)
  | .box _ x => c1 GC .box x
  | .build t ps => (match zcells T t, under T t with
    | some z, .struct fs => bif !rows T fs.toList then none else (match places T fs (ps.toList.map (·.1)) with | some l => cs GC (.build z l) (ps.toList.map (·.2)) | none => none)
    | some z, .array _ e => (match kindOf T e with
      | some k => cs GC (.build z (ps.toList.map fun p => (p.1 * ksz k, ksz k))) (ps.toList.map (·.2))
      | none => none)
    | _, _ => none)
  | .buildSlice t len ps => (match elemOf T t with
    | some e => (match kindOf T e, zcells T e with
      | some k, some z => bif Nat.ble (len * ksz k) 16777216 && Nat.beq z.length (ksz k) then cs GC (.buildSlice k z len (ps.toList.map (·.1)) fz) (ps.toList.map (·.2)) else none
      | _, _ => none)
    | none => none)
  | .load t a => (match kindOf T t with | some k => c1 GC (.load k) a | none => none)
  | .store t a x => (match kindOf T t with | some k => c2 GC (.store (ksz k)) a x | none => none)
  | .nilCheck x => c1 GC .nilCheck x
  | .binOp op t x y _ => (match op with
    | .eql => (match under T t with | .int _ => c2 GC (.bin .eql) x y | .string => c2 GC (.bin .eql) x y | _ => c2 GC (.eq (eqD T E t (lit x || lit y) (nilC y)) false) x y)
    | .neq => (match under T t with | .int _ => c2 GC (.bin .neq) x y | .string => c2 GC (.bin .neq) x y | _ => c2 GC (.eq (eqD T E t (lit x || lit y) (nilC y)) true) x y)
    | op => c2 GC (.bin op) x y)
  | .unOp op _ x => c1 GC (.un op) x
  | .convert s d x => compConv GC T s d x
  | .makeInterface t x => (match under T t with | .interface _ => none | .invalid => none | _ => c1 GC (.mkIface t) x)
  | .makeFunc (.func f) a b => cs GC (.mkFn f a.size) (a.toList ++ b.toList)
  | .makeSlice t l c => (match elemOf T t with
    | some e => (match kindOf T e, zcells T e with
      | some k, some z => bif smallB T e && Nat.beq z.length (ksz k) then c2 GC (.makeSlice k z) l c else none
      | _, _ => none)
    | none => none)
  | .slice t x lo hi mx => compSlice GC T t x lo hi mx
  | .fieldAddr s x f => (match under T s with
    | .struct fs => (match fs[f]? with
      | some fl => bif Nat.beq (size T fl.type) 0 then none else c1 GC (.fieldAddr fl.offset) x
      | none => none)
    | _ => none)
  | .field t x f => (match under T t with
    | .struct fs => (match fs[f]? with
      | some fl => (match kindOf T fl.type with | some k => c1 GC (.field k fl.offset) x | none => none)
      | none => none)
    | _ => none)
  | .indexAddr t x i => (match under T t with
    | .slice e => (match kindOf T e with | some k => c2 GC (.indexAddr k) x i | none => none)
    | .array n e => (match kindOf T e with | some k => c2 GC (.indexArr n (ksz k)) x i | none => none)
    | _ => none)
  | .index t x i => (match under T t with
    | .string => c2 GC .indexStr x i
    | .array n e => (match kindOf T e with | some k => c2 GC (.indexAgg n k) x i | none => none)
    | _ => none)
  | .range t x => (match under T t with
    | .string => c1 GC .range x
    | _ => none)
  | .next x true => c1 GC .next x
  | .typeAssert x _ a o => (match under T a with
    | .interface _ => none
    | .invalid => none
    | _ => (match zeroAV T a with | some z => c1 GC (.assertT a z o) x | none => none))
  | .extract x i => c1 GC (.extract i) x
  | .call c => (match c.callee with
    | .value (.func f) => cs GC (.callF f) c.args.toList
    | .value x => cs GC .callV (x :: c.args.toList)
    | .builtin b => compBuiltin GC T b c.argTypes.toList c.args.toList
    | .invoke .. => none)
  | _ => none

def compOper (fz : Bool) (all : Array Oper) (o : Oper) : Option DOper :=
  match compOp GC T E fz o.op with
  | none => none
  | some (op, args) => match o.guard with
    | none => some { dst := o.dst, op, args, guard := none }
    | some (j, b) => match (all[j]?).bind (·.dst) with
      | some d => some { dst := o.dst, op, args, guard := some (d, b) }
      | none => none

def compOpers (fz : Bool) (all : Array Oper) : List Oper → Option (List DOper)
  | [] => some []
  | o :: r => match compOper GC T E fz all o, compOpers fz all r with
    | some a, some b => some (a :: b)
    | _, _ => none

-- regions that draw their order

inductive Cls where | pure | read | eff | store | pre
def Cls.of : DOp → Cls
  | .pre _ _ => .pre
  | .load _ => .read
  | .bytesStr => .read
  | .runesStr => .read
  | .slice _ _ _ _ => .read
  | .sliceArr _ _ _ _ => .read
  | .store _ => .store
  | .alloc _ => .eff
  | .box => .eff
  | .strBytes => .eff
  | .makeSlice _ _ => .eff
  | .range => .eff
  | .next => .eff
  | .append _ => .eff
  | .copy _ => .eff
  | .clear _ _ => .eff
  | .buildSlice _ _ _ _ fz => (match fz with | true => .eff | false => .pure)
  | .callF _ => .eff
  | .callV => .eff
  | _ => .pure

/-- the slots that an operation names: what it reads (operands, its guard) -/
def slotsOf : List Opd → List Nat
  | [] => []
  | .t n :: r => n :: slotsOf r
  | .c _ :: r => slotsOf r
def DOper.looks (o : DOper) : List Nat := (match o.guard with | some (d, _) => [d] | none => []) ++ slotsOf o.args
def dstIn (d : Option Nat) (l : List Nat) : Bool := match d with | some d => mem d l | none => false
def sameDst : Option Nat → Option Nat → Bool
  | some a, some b => Nat.beq a b
  | _, _ => false
def apart (x y : DOper) : Bool := !dstIn x.dst y.looks && !dstIn y.dst x.looks && !sameDst x.dst y.dst

/-- for each operation, the numbers of those that come surely ahead of it -/
def ancs (l : List Oper) (acc : List (List Nat)) : List (List Nat) :=
  match l with
  | [] => acc
  | o :: r => ancs r (acc ++ [(o.after.toList.filter fun e => Region.binds .any e).foldr (fun e s => e.on :: (acc.getD e.on [] ++ s)) []])

/-- what comes surely ahead has a smaller number -/
def backs : Nat → List Oper → Bool
  | _, [] => true
  | i, o :: r => (o.after.toList.all fun e => !Region.binds .any e || Nat.blt e.on i) && backs (i + 1) r

inductive Pr where | fine | rd | dr | ss | al | la | no
def pairOf (x y : DOper) : Pr :=
  bif !apart x y then .no else
  match Cls.of x.op, Cls.of y.op with
  | .eff, .eff => .no
  | .eff, .store => .no
  | .store, .eff => .no
  | .store, .store => .ss
  | .read, .eff => .rd
  | .read, .store => .rd
  | .eff, .read => .dr
  | .store, .read => .dr
  | .pre, .eff => .al
  | .pre, .store => .al
  | .eff, .pre => .la
  | .store, .pre => .la
  | _, _ => .fine

structure Prs where
  rd : List (Nat × Nat)
  st : List (Nat × Nat)
  al : List (Nat × Nat)

/-- no store that may stand before another or behind it is loose from a reading -/
def Prs.calm (p : Prs) : Bool := p.rd.all fun r => p.st.all fun s => !Nat.beq r.2 s.1 && !Nat.beq r.2 s.2

/-- x: number i; those behind it -/
def pairsOf (an : List (List Nat)) (i : Nat) (x : DOper) : Nat → List DOper → Prs → Option Prs
  | _, [], p => some p
  | j, y :: r, p => bif mem i (an.getD j []) then pairsOf an i x (j + 1) r p else match pairOf x y with
    | .fine => pairsOf an i x (j + 1) r p
    | .rd => pairsOf an i x (j + 1) r { p with rd := (i, j) :: p.rd }
    | .dr => pairsOf an i x (j + 1) r { p with rd := (j, i) :: p.rd }
    | .ss => pairsOf an i x (j + 1) r { p with st := (i, j) :: p.st }
    | .al => pairsOf an i x (j + 1) r { p with al := (i, j) :: p.al }
    | .la => pairsOf an i x (j + 1) r { p with al := (j, i) :: p.al }
    | .no => none
def allPairs (an : List (List Nat)) : Nat → List DOper → Prs → Option Prs
  | _, [], p => some p
  | i, x :: r, p => match pairsOf an i x (i + 1) r p with
    | some p => allPairs an (i + 1) r p
    | none => none

/-- allocations that wait for nothing are laid ahead -/
def floats (an : List (List Nat)) : Nat → Nat → List DOper → List DOper
  | _, _, [] => []
  | i, m, o :: r => match o.op, o.guard, an.getD i [] with
    | .alloc z, none, [] => { o with op := .pre m z } :: floats an (i + 1) (m + 1) r
    | _, _, _ => o :: floats an (i + 1) m r
def dstsApart : List DOper → Bool
  | [] => true
  | o :: r => r.all (fun q => !sameDst o.dst q.dst) && dstsApart r

def compRegion (fz : Bool) (os : Array Oper) (draw : Bool) : DCode :=
  match compOpers GC T E (fz && !draw) os os.toList with
  | none => .bad "region"
  | some l => bif draw then
      (let an := ancs os.toList []
       let l := floats an 0 0 l
       match allPairs an 0 l { rd := [], st := [], al := [] } with
       | some p => bif backs 0 os.toList && dstsApart l && p.calm then .draw l p.rd p.st p.al else .bad "draw"
       | none => .bad "draw")
    else .ops l

def comp (fz : Bool) : Code → DCode
  | .skip => .skip
  | .label _ => .skip
  | .region _ os d => compRegion GC T E fz os d
  | .seq a b => .seq (comp fz a) (comp fz b)
  | .cond c a b => match opd GC c with | some x => .cond x (comp fz a) (comp fz b) | none => .bad "cond"
  | .block id b => .block id (comp fz b)
  | .loop b => .loop (comp fz b)
  | .exit id => .exit id
  | .goto _ => .bad "goto"
  | .ret => .ret
  | .scope _ => .bad "scope"
  | .rangeFunc .. => .bad "rangeFunc"
  | .refuse _ => .bad "refuse"

def compResults : List ResultVar → Option (List (Nat × Option (Option Nat)))
  | [] => some []
  | .tmp t :: r => match compResults r with | some l => some ((t, none) :: l) | none => none
  | .cell a t :: r => match kindOf T t, compResults r with | some k, some l => some ((a, some k) :: l) | _, _ => none

def compFun (pol : Pol) (f : Nat) (fn : Func) : Option DFun :=
  match fn.body, compResults T fn.results.toList with
  | some c, some rs => some
    { nparams := fn.params.size
      ntmps := fn.ntmps
      body := comp GC T E (!mem f pol.noFB) c
      results := rs
      freezeArg := !mem f pol.noFA
      freezeRet := !mem f pol.noFR
      freezePtr := mem f pol.fP }
  | _, _ => none
end

-- ------------------------------------------------------------------ running


def opv (tm : PT AV) : Opd → Option AV
  | .t n => tm.get n
  | .c v => some v
def opvs (tm : PT AV) : List Opd → Option (List AV)
  | [] => some []
  | x :: xs => match opv tm x, opvs tm xs with
    | some a, some b => some (a :: b)
    | _, _ => none
def putT (tm : PT AV) (d : Option Nat) (v : AV) : Option (PT AV) :=
  match d with
  | none => some tm
  | some d => match tm.get d with
    | some _ => some (tm.set d v)
    | none => none

def cellsAt (hp : PT HO) (id : Nat) : Option (List AV) :=
  match hp.get id with
  | some (.cells cs) => some cs
  | _ => none

def dropN : Nat → List AV → List AV
  | 0, l => l
  | _ + 1, [] => []
  | n + 1, _ :: l => dropN n l
/-- exactly n of them -/
def takeN : Nat → List AV → Option (List AV)
  | 0, _ => some []
  | _ + 1, [] => none
  | n + 1, x :: l => match takeN n l with | some r => some (x :: r) | none => none
def nth : List AV → Nat → Option AV
  | [], _ => none
  | x :: _, 0 => some x
  | _ :: l, n + 1 => nth l n
/-- overwrite from a place on; none: it does not fit -/
def over : List AV → List AV → Option (List AV)
  | cs, [] => some cs
  | [], _ :: _ => none
  | _ :: cs, v :: vs => match over cs vs with | some r => some (v :: r) | none => none
def splice : List AV → Nat → List AV → Option (List AV)
  | cs, 0, vs => over cs vs
  | [], _ + 1, vs => match vs with | [] => some [] | _ => none
  | c :: cs, n + 1, vs => match splice cs n vs with | some r => some (c :: r) | none => none

/-- an aggregate of so many cells, or one cell -/
def shp : AV → Option Nat
  | .agg cs => some cs.length
  | _ => none
def kEq : Option Nat → Option Nat → Bool
  | none, none => true
  | some a, some b => Nat.beq a b
  | _, _ => false
/-- are the elements (all of one shape) of this kind? -/
def uni (k : Option Nat) : List AV → Bool
  | [] => true
  | x :: _ => kEq (shp x) k
/-- exactly n cells, none an aggregate -/
def takeS : Nat → List AV → Option (List AV)
  | 0, _ => some []
  | _ + 1, [] => none
  | n + 1, x :: l => match shp x, takeS n l with | none, some r => some (x :: r) | _, _ => none
def chunk : Option Nat → Nat → List AV → Option (List AV)
  | none, n, cs => takeS n cs
  | some _, 0, _ => some []
  | some k, n + 1, cs => match takeN k cs, chunk (some k) n (dropN k cs) with
    | some a, some r => some (.agg a :: r)
    | _, _ => none

def flat : List AV → List AV
  | [] => []
  | x :: xs => x.cells ++ flat xs

mutual
/-- slices inside a value become by-value; d: depth -/
def freeze (d : Nat) (ptrs canon : Bool) (hp : PT HO) : AV → Option (AV × PT HO)
  | .arr id off len k => match d with
    | 0 => none
    | d + 1 => match cellsAt hp id with
      | none => none
      | some cs => match takeN (len * ksz k) (dropN off cs) with
        | none => none
        | some cs => match freezes d ptrs canon (hp.set id .dead) cs with
          | none => none
          | some (cs, hp) => match chunk k len cs with
            | some xs => some (.sl xs false, hp)
            | none => none
  | .sl xs ex => match ptrs with
    | false => some (.sl xs (ex && !canon), hp)
    | true => match d with
      | 0 => none
      | d + 1 => match freezes d ptrs canon hp xs with
        | some (xs, hp) => some (.sl xs (ex && !canon), hp)
        | none => none
  | .agg cs => match d with
    | 0 => none
    | d + 1 => match freezes d ptrs canon hp cs with
      | some (cs, hp) => some (.agg cs, hp)
      | none => none
  | .tup cs => match d with
    | 0 => none
    | d + 1 => match freezes d ptrs canon hp cs with
      | some (cs, hp) => some (.tup cs, hp)
      | none => none
  | .iface t v => match d with
    | 0 => none
    | d + 1 => match freeze d ptrs canon hp v with
      | some (v, hp) => some (.iface t v, hp)
      | none => none
  | .ptr id off => match ptrs with
    | false => some (.ptr id off, hp)
    | true => match d with
      | 0 => none
      | d + 1 => match cellsAt hp id with
        | none => none
        | some cs => match freezes d ptrs canon (hp.set id .dead) cs with
          | some (cs, hp) => some (.rop cs off, hp)
          | none => none
  | v => some (v, hp)
def freezes (d : Nat) (ptrs canon : Bool) (hp : PT HO) : List AV → Option (List AV × PT HO)
  | [] => some ([], hp)
  | v :: vs => match d with
    | 0 => none
    | d + 1 => match freeze d ptrs canon hp v with
      | none => none
      | some (v, hp) => match freezes d ptrs canon hp vs with
        | some (vs, hp) => some (v :: vs, hp)
        | none => none
end

def loadC (hp : PT HO) (a : AV) (n : Nat) : Option (List AV) :=
  match a with
  | .ptr id off => match cellsAt hp id with
    | some cs => takeN n (dropN off cs)
    | none => none
  | .rop cs off => takeN n (dropN off cs)
  | _ => none

def load1 (hp : PT HO) (a : AV) : Option AV :=
  match a with
  | .ptr id off => match cellsAt hp id with
    | some cs => nth cs off
    | none => none
  | .rop cs off => nth cs off
  | _ => none

def loadK (hp : PT HO) (k : Option Nat) (a : AV) : Option AV :=
  match k with
  | none => load1 hp a
  | some n => match loadC hp a n with | some cs => some (.agg cs) | none => none

/-- may a cell hold each? -/
def plain1 : AV → Bool
  | .agg _ => false
  | .tup _ => false
  | _ => true
def plains : List AV → Bool
  | [] => true
  | x :: r => plain1 x && plains r

def storeC (hp : PT HO) (n : Nat) (a v : AV) : Option (PT HO) :=
  match a with
  | .ptr id off => match cellsAt hp id with
    | some cs => bif Nat.beq v.cells.length n && plains v.cells then (match splice cs off v.cells with
      | some cs => some (hp.set id (.cells cs))
      | none => none) else none
    | none => none
  | _ => none

def lenOf : AV → Option Nat
  | .nils => some 0
  | .sl xs _ => some xs.length
  | .arr _ _ len _ => some len
  | .str s => some s.length
  | _ => none

def bytesAV : List UInt8 → List AV
  | [] => []
  | b :: r => .int .u8 b.toNat :: bytesAV r

def elemCells (k : Option Nat) (hp : PT HO) : AV → Option (List AV)
  | .nils => some []
  | .sl xs _ => bif uni k xs then some (flat xs) else none
  | .arr id off len k' => bif kEq k' k then (match cellsAt hp id with
    | some cs => takeN (len * ksz k) (dropN off cs)
    | none => none) else none
  | .str s => (match k with | none => some (bytesAV s) | some _ => none)
  | _ => none

def partAt (k : Option Nat) (cs : List AV) (off : Nat) : Option AV :=
  match k with
  | none => nth cs off
  | some n => match takeN n (dropN off cs) with | some l => some (.agg l) | none => none

/-- an int within 0..b -/
def natIn (v : AV) (b : Nat) : Option Nat :=
  match v with
  | .int _ (.ofNat n) => bif Nat.ble n b then some n else none
  | _ => none
/-- the next bound, if there is one -/
def bnd (has : Bool) (d b : Nat) (l : List AV) : Option (Nat × List AV) :=
  match has, l with
  | false, l => some (d, l)
  | true, v :: l => match natIn v b with | some n => some (n, l) | none => none
  | true, [] => none

abbrev Res := Option (AV × PT HO × Nat)

def rep : Nat → List AV → List AV
  | 0, _ => []
  | n + 1, z => z ++ rep n z

def fill : List AV → List (Nat × Nat × AV) → Option (List AV)
  | cs, [] => some cs
  | cs, (off, size, v) :: r => bif Nat.beq v.cells.length size && !Nat.beq size 0 then (match splice cs off v.cells with
    | some cs => fill cs r
    | none => none) else none

def zip3 : List (Nat × Nat) → List AV → Option (List (Nat × Nat × AV))
  | [], [] => some []
  | (a, b) :: r, v :: vs => match zip3 r vs with | some l => some ((a, b, v) :: l) | none => none
  | _, _ => none

/-- the parts of a slice literal, frozen if told -/
def zip2 (fz : Bool) (s : Nat) (hp : PT HO) : List Nat → List AV → Option (List (Nat × Nat × AV) × PT HO)
  | [], [] => some ([], hp)
  | i :: r, v :: vs => match (bif fz then freeze 100000 false false hp v else some (v, hp)) with
      | none => none
      | some (v, hp) => match zip2 fz s hp r vs with
        | some (l, hp) => some ((i * s, s, v) :: l, hp)
        | none => none
  | _, _ => none

def strEq : List UInt8 → List UInt8 → Bool
  | [], [] => true
  | a :: x, b :: y => bif Nat.beq a.toNat b.toNat then strEq x y else false
  | _, _ => false
def strLt : List UInt8 → List UInt8 → Bool
  | _, [] => false
  | [], _ :: _ => true
  | a :: x, b :: y => bif Nat.beq a.toNat b.toNat then strLt x y else Nat.blt a.toNat b.toNat

def intEq : Int → Int → Bool
  | .ofNat a, .ofNat b => Nat.beq a b
  | .negSucc a, .negSucc b => Nat.beq a b
  | _, _ => false
def intLt : Int → Int → Bool
  | .ofNat a, .ofNat b => Nat.blt a b
  | .negSucc a, .negSucc b => Nat.blt b a
  | .negSucc _, .ofNat _ => true
  | .ofNat _, .negSucc _ => false

def binI (op : BinOp) (k : IntKind) (a b : Int) : Option AV :=
  match op with
  | .add => some (.int k (k.wrap (a + b)))
  | .sub => some (.int k (k.wrap (a - b)))
  | .mul => some (.int k (k.wrap (a * b)))
  | .quo => bif intEq b 0 then none else some (.int k (k.wrap (a.tdiv b)))
  | .rem => bif intEq b 0 then none else some (.int k (a.tmod b))
  | .and => some (.int k (k.wrap (BitVec.ofInt k.bits a &&& BitVec.ofInt k.bits b).toNat))
  | .or => some (.int k (k.wrap (BitVec.ofInt k.bits a ||| BitVec.ofInt k.bits b).toNat))
  | .xor => some (.int k (k.wrap (BitVec.ofInt k.bits a ^^^ BitVec.ofInt k.bits b).toNat))
  | .andNot => some (.int k (k.wrap (BitVec.ofInt k.bits a &&& ~~~ BitVec.ofInt k.bits b).toNat))
  | .shl => bif intLt b 0 then none else some (.int k (k.wrap (a * 2 ^ (min b.toNat k.bits))))
  | .shr => bif intLt b 0 then none else some (.int k (a.fdiv (2 ^ (min b.toNat k.bits))))
  | .eql => some (.bool (intEq a b))
  | .neq => some (.bool !(intEq a b))
  | .lss => some (.bool (intLt a b))
  | .leq => some (.bool !(intLt b a))
  | .gtr => some (.bool (intLt b a))
  | .geq => some (.bool !(intLt a b))

def binS (op : BinOp) (a b : List UInt8) : Option AV :=
  match op with
  | .add => bif Nat.ble (a.length + b.length) 1000000000 then some (.str (a ++ b)) else none
  | .eql => some (.bool (strEq a b))
  | .neq => some (.bool !(strEq a b))
  | .lss => some (.bool (strLt a b))
  | .leq => some (.bool !(strLt b a))
  | .gtr => some (.bool (strLt b a))
  | .geq => some (.bool !(strLt a b))
  | _ => none

def isShift : BinOp → Bool | .shl => true | .shr => true | _ => false
def bin (op : BinOp) (x y : AV) : Option AV :=
  match x, y with
  | .int k a, .int j b => bif isShift op || k == j then binI op k a b else none
  | .str a, .str b => binS op a b
  | _, _ => none

def eqFlat : EqD → AV → AV → Option Bool
  | .int, .int k a, .int j b => bif k == j then some (intEq a b) else none
  | .bool, .bool a, .bool b => some (bif a then b else !b)
  | .str, .str a, .str b => some (strEq a b)
  | _, _, _ => none
def equals : List (Nat × Option Nat × EqD) → List AV → List AV → Option Bool
  | [], _, _ => some true
  | (off, k, d) :: fs, a, b =>
    match partAt k a off, partAt k b off with
    | some x, some y => match eqFlat d x y with
      | some true => equals fs a b
      | r => r
    | _, _ => none
def eqPtr : AV → AV → Option Bool
  | .nilp, .nilp => some true
  | .nilp, .ptr _ _ => some false
  | .nilp, .rop _ _ => some false
  | .ptr _ _, .nilp => some false
  | .rop _ _, .nilp => some false
  | _, _ => none
def eqIface (nn : Bool) : AV → AV → Option Bool
  | .nili, .nili => bif nn then some true else none
  | .nili, .iface _ _ => some false
  | .iface _ _, .nili => some false
  | _, _ => none
def eqNilf : AV → AV → Option Bool
  | .nilf, .nilf => some true
  | .nilf, .fn _ _ _ => some false
  | .fn _ _ _, .nilf => some false
  | _, _ => none
def eqNilsl : AV → AV → Option Bool
  | .nils, .nils => some true
  | .sl _ _, .nils => some false
  | .arr _ _ _ _, .nils => some false
  | _, _ => none
def eqAgg (fs : List (Nat × Option Nat × EqD)) : AV → AV → Option Bool
  | .agg a, .agg b => equals fs a b
  | _, _ => none
def equal (d : EqD) (x y : AV) : Option Bool :=
  match d with
  | .ptr => eqPtr x y
  | .iface nn => eqIface nn x y
  | .nilf => eqNilf x y
  | .nilsl => eqNilsl x y
  | .struct fs => eqAgg fs x y
  | d => eqFlat d x y

def bytesOf : List AV → Option (List UInt8)
  | [] => some []
  | .int .u8 n :: r => match bytesOf r with | some l => some (UInt8.ofNat n.toNat :: l) | none => none
  | _ => none
def runesOf : List AV → Option (List UInt8)
  | [] => some []
  | .int .i32 n :: r => match runesOf r with | some l => some ((Utf8.encode n).data.toList ++ l) | none => none
  | _ => none

def ok (v : AV) (hp : PT HO) (c : Nat) : Res := some (v, hp, c)

-- the operations, on values
abbrev OpF := List AV → PT HO → Nat → Res

def oMove : OpF | [v], hp, c => ok v hp c | _, _, _ => none
def oPick : OpF
  | [.bool b, x, y], hp, c => ok (match b with | true => x | false => y) hp c
  | _, _, _ => none
def oAlloc (z : List AV) : OpF | [], hp, c => ok (.ptr c 0) (hp.set c (.cells z)) (c + 1) | _, _, _ => none
def oBox : OpF | [v], hp, c => ok (.ptr c 0) (hp.set c (.cells v.cells)) (c + 1) | _, _, _ => none
def oBuild (z : List AV) (ps : List (Nat × Nat)) : OpF := fun vs hp c =>
  match zip3 ps vs with
  | some l => (match fill z l with | some cs => ok (.agg cs) hp c | none => none)
  | none => none
def oBuildSlice (k : Option Nat) (z : List AV) (len : Nat) (ps : List Nat) (fz : Bool) : OpF := fun vs hp c =>
  match zip2 fz (ksz k) hp ps vs with
  | some (l, hp) => (match fill (rep len z) l with
    | some cs => (match chunk k len cs with | some xs => ok (.sl xs true) hp c | none => none)
    | none => none)
  | none => none
def oLoad (k : Option Nat) : OpF
  | [a], hp, c => (match loadK hp k a with | some v => ok v hp c | none => none)
  | _, _, _ => none
def oStore (n : Nat) : OpF
  | [a, v], hp, c => (match storeC hp n a v with | some hp => ok (.tup []) hp c | none => none)
  | _, _, _ => none
def isNil : AV → Bool
  | .nilp => true | .nili => true | .nilf => true | _ => false
def oNil : OpF
  | [v], hp, c => bif isNil v then none else ok v hp c
  | _, _, _ => none
def oBin (op : BinOp) : OpF
  | [a, b], hp, c => (match bin op a b with | some v => ok v hp c | none => none)
  | _, _, _ => none
def oEq (d : EqD) (neg : Bool) : OpF
  | [a, b], hp, c => (match equal d a b with | some v => ok (.bool (bif neg then !v else v)) hp c | none => none)
  | _, _, _ => none
def oUn (op : UnOp) : OpF
  | [.int k n], hp, c => (match op with
    | .neg => ok (.int k (k.wrap (0 - n))) hp c
    | .xor => (match binI .xor k (bif k.signed then -1 else k.max) n with | some v => ok v hp c | none => none)
    | _ => none)
  | [.bool b], hp, c => (match op with | .not => ok (.bool !b) hp c | _ => none)
  | _, _, _ => none
def oConvInt (k : IntKind) : OpF | [.int _ n], hp, c => ok (.int k (k.wrap n)) hp c | _, _, _ => none
def oIntStr : OpF | [.int _ n], hp, c => ok (.str (Utf8.encode n).data.toList) hp c | _, _, _ => none
def oStrStr : OpF | [.str s], hp, c => ok (.str s) hp c | _, _, _ => none
def oStrBytes : OpF
  | [.str s], hp, c => ok (.arr c 0 s.length none) (hp.set c (.cells (bytesAV s))) (c + 1)
  | _, _, _ => none
def oBytesStr : OpF
  | [.str _], _, _ => none
  | [v], hp, c => (match elemCells none hp v with
    | some cs => (match bytesOf cs with | some s => ok (.str s) hp c | none => none)
    | none => none)
  | _, _, _ => none
def oRunesStr : OpF
  | [.str _], _, _ => none
  | [v], hp, c => (match elemCells none hp v with
    | some cs => (match runesOf cs with | some s => ok (.str s) hp c | none => none)
    | none => none)
  | _, _, _ => none
def oIface (t : TypeId) : OpF | [v], hp, c => ok (.iface t v) hp c | _, _, _ => none
def oFn (f : FuncId) (n : Nat) : OpF := fun vs hp c => ok (.fn f (vs.take n) (vs.drop n)) hp c
def oMakeSlice (k : Option Nat) (z : List AV) : OpF
  | [l, m], hp, c => (match natIn m 1000000 with
    | some m => (match natIn l m with
      | some l => ok (.arr c 0 l k) (hp.set c (.cells (rep m z))) (c + 1)
      | none => none)
    | none => none)
  | _, _, _ => none
/-- low, high, max, out of the operands -/
def slBounds (lo hi mx : Bool) (len cap : Nat) (r : List AV) : Option (Nat × Nat × Nat) :=
  match lo, hi, mx, r with
  | false, false, false, [] => some (0, len, cap)
  | true, false, false, [l] => (match natIn l len with | some l => some (l, len, cap) | none => none)
  | false, true, false, [h] => (match natIn h cap with | some h => some (0, h, cap) | none => none)
  | true, true, false, [l, h] => (match natIn h cap with
    | some h => (match natIn l h with | some l => some (l, h, cap) | none => none)
    | none => none)
  | false, true, true, [h, m] => (match natIn m cap with
    | some m => (match natIn h m with | some h => some (0, h, m) | none => none)
    | none => none)
  | true, true, true, [l, h, m] => (match natIn m cap with
    | some m => (match natIn h m with
      | some h => (match natIn l h with | some l => some (l, h, m) | none => none)
      | none => none)
    | none => none)
  | _, _, _, _ => none
def oSliceStr (lo hi : Bool) : OpF
  | .str s :: r, hp, c => (match slBounds lo hi false s.length s.length r with
    | some (l, h, _) => ok (.str ((s.take h).drop l)) hp c
    | none => none)
  | _, _, _ => none
def oSlice (k : Option Nat) (lo hi mx : Bool) : OpF
  | .nils :: r, hp, c => (match slBounds lo hi mx 0 0 r with
    | some _ => ok .nils hp c
    | none => none)
  | .sl xs ex :: r, hp, c => bif uni k xs then (match slBounds lo hi mx xs.length xs.length r with
    | some (l, h, m) => ok (.sl ((xs.take h).drop l) (match mx with | true => Nat.beq m h | false => ex && Nat.beq h xs.length)) hp c
    | none => none) else none
  | .arr id off len k' :: r, hp, c => bif kEq k' k then (match cellsAt hp id with
    | some cs => (match slBounds lo hi mx len ((cs.length - off) / ksz k) r with
      | some (l, h, m) => (match mx with
        | true => bif Nat.beq m l then ok (.sl [] true) hp c else
          bif Nat.beq (off + m * ksz k) cs.length then ok (.arr id (off + l * ksz k) (h - l) k) hp c else none
        | false => ok (.arr id (off + l * ksz k) (h - l) k) hp c)
      | none => none)
    | none => none) else none
  | _, _, _ => none
def oSliceArr (n : Nat) (k : Option Nat) (lo hi : Bool) : OpF
  | .ptr id off :: r, hp, c => (match cellsAt hp id with
    | some cs => bif Nat.beq (off + n * ksz k) cs.length && Nat.blt 0 (ksz k) then (match slBounds lo hi false n n r with
      | some (l, h, _) => ok (.arr id (off + l * ksz k) (h - l) k) hp c
      | none => none) else none
    | none => none)
  | _, _, _ => none
def oFieldAddr (o : Nat) : OpF
  | [.ptr id off], hp, c => ok (.ptr id (off + o)) hp c
  | [.rop cs off], hp, c => ok (.rop cs (off + o)) hp c
  | _, _, _ => none
def oField (k : Option Nat) (o : Nat) : OpF
  | [.agg cs], hp, c => (match partAt k cs o with | some v => ok v hp c | none => none)
  | _, _, _ => none
def oIndexAddr (k : Option Nat) : OpF
  | [.sl xs _, .int _ (.ofNat n)], hp, c => bif uni k xs then (match nth xs n with | some v => ok (.rop v.cells 0) hp c | none => none) else none
  | [.arr id off len k', .int _ (.ofNat n)], hp, c => bif kEq k' k && Nat.blt n len then ok (.ptr id (off + n * ksz k)) hp c else none
  | _, _, _ => none
def oIndexArr (n s : Nat) : OpF
  | [.ptr id off, .int _ (.ofNat j)], hp, c => bif Nat.blt j n then ok (.ptr id (off + j * s)) hp c else none
  | [.rop cs off, .int _ (.ofNat j)], hp, c => bif Nat.blt j n then ok (.rop cs (off + j * s)) hp c else none
  | _, _, _ => none
def oIndexStr : OpF
  | [.str s, .int _ (.ofNat j)], hp, c => (match s[j]? with | some b => ok (.int .u8 b.toNat) hp c | none => none)
  | _, _, _ => none
def oIndexAgg (n : Nat) (k : Option Nat) : OpF
  | [.agg cs, .int _ (.ofNat j)], hp, c => bif Nat.blt j n then (match partAt k cs (j * ksz k) with | some v => ok v hp c | none => none) else none
  | _, _, _ => none
def oRange : OpF | [.str s], hp, c => ok (.ptr c 0) (hp.set c (.iter s 0)) (c + 1) | _, _, _ => none
def oNext : OpF
  | [.ptr id 0], hp, c => (match hp.get id with
    | some (.iter s pos) => bif Nat.blt pos s.length then
        (match Utf8.decode ⟨s.toArray⟩ pos with
          | (r, w) => ok (.tup [.bool true, .int .i64 pos, .int .i32 r]) (hp.set id (.iter s (pos + w))) c)
        else ok (.tup [.bool false]) hp c
    | _ => none)
  | _, _, _ => none
def oAssertT (a : TypeId) (z : AV) (o : Bool) : OpF
  | [.nili], hp, c => bif o then ok (.tup [z, .bool false]) hp c else none
  | [.iface t v], hp, c => bif Nat.beq t a then (bif o then ok (.tup [v, .bool true]) hp c else ok v hp c)
      else (bif o then ok (.tup [z, .bool false]) hp c else none)
  | _, _, _ => none
def oExtract (i : Nat) : OpF
  | [.tup vs], hp, c => (match nth vs i with | some v => ok v hp c | none => none)
  | _, _, _ => none
def oLen (s : Bool) : OpF
  | [.str x], hp, c => bif s then ok (.int .i64 x.length) hp c else none
  | [.nils], hp, c => bif s then none else ok (.int .i64 0) hp c
  | [.sl xs _], hp, c => bif s then none else ok (.int .i64 xs.length) hp c
  | [.arr _ _ len _], hp, c => bif s then none else ok (.int .i64 len) hp c
  | _, _, _ => none
/-- appended: so many elements, their cells -/
def appTo (k : Option Nat) (n : Nat) (yc : List AV) : AV → PT HO → Nat → Res
  | .nils, hp, c => bif Nat.beq n 0 then ok .nils hp c else
      bif plains yc && Nat.ble n 1000000000 then ok (.arr c 0 n k) (hp.set c (.cells yc)) (c + 1) else none
  | .sl xs ex, hp, c => bif Nat.beq n 0 then ok (.sl xs ex) hp c else
      bif ex && uni k xs && plains yc && Nat.ble (xs.length + n) 1000000000 then ok (.arr c 0 (xs.length + n) k) (hp.set c (.cells (flat xs ++ yc))) (c + 1) else none
  | .arr id off len k', hp, c => (match cellsAt hp id with
    | some cs => bif !kEq k' k then none else bif Nat.ble (off + len * ksz k + yc.length) cs.length then
        (bif !plains yc then none else match splice cs (off + len * ksz k) yc with | some cs => ok (.arr id off (len + n) k) (hp.set id (.cells cs)) c | none => none)
      else bif Nat.beq n 0 then ok (.arr id off len k) hp c
      else bif Nat.ble (len + n) 1000000000 && plains yc then (match takeN (len * ksz k) (dropN off cs) with
        | some old => ok (.arr c 0 (len + n) k) ((hp.set id .dead).set c (.cells (old ++ yc))) (c + 1)
        | none => none)
      else none
    | none => none)
  | _, _, _ => none
def oAppend (k : Option Nat) : OpF
  | [s, y], hp, c => (match lenOf y, elemCells k hp y with
    | some n, some yc => appTo k n yc s hp c
    | _, _ => none)
  | _, _, _ => none
def oCopy (k : Option Nat) : OpF
  | [.arr id off len k', y], hp, c => (match lenOf y, elemCells k hp y, cellsAt hp id with
    | some n, some yc, some cs => (bif !kEq k' k then none else match takeN (Nat.min len n * ksz k) yc with
      | some z => (bif !plains z then none else match splice cs off z with | some cs => ok (.int .i64 (Nat.min len n)) (hp.set id (.cells cs)) c | none => none)
      | none => none)
    | _, _, _ => none)
  | [.nils, y], hp, c => (match lenOf y with
    | some _ => ok (.int .i64 0) hp c
    | none => none)
  | [.sl xs _, y], hp, c => (match lenOf y with
    | some n => bif Nat.beq (Nat.min xs.length n) 0 then ok (.int .i64 0) hp c else none
    | none => none)
  | _, _, _ => none
def oClear (k : Option Nat) (z : List AV) : OpF
  | [.arr id off len k'], hp, c => (match cellsAt hp id with
    | some cs => (bif !(kEq k' k && plains z) then none else match splice cs off (rep len z) with | some cs => ok (.tup []) (hp.set id (.cells cs)) c | none => none)
    | none => none)
  | [.sl [] _], hp, c => ok (.tup []) hp c
  | [.nils], hp, c => ok (.tup []) hp c
  | _, _, _ => none
def oMin : OpF | [.int k a, .int _ b], hp, c => ok (.int k (bif intLt b a then b else a)) hp c | _, _, _ => none
def oMax : OpF | [.int k a, .int _ b], hp, c => ok (.int k (bif intLt a b then b else a)) hp c | _, _, _ => none

/-- an operation that calls nothing -/
def opRun : DOp → OpF
  | .move => oMove
  | .pre _ _ => fun _ _ _ => none
  | .pick => oPick
  | .alloc z => oAlloc z
  | .box => oBox
  | .build z ps => oBuild z ps
  | .buildSlice k z len ps fz => oBuildSlice k z len ps fz
  | .load k => oLoad k
  | .store n => oStore n
  | .nilCheck => oNil
  | .bin op => oBin op
  | .eq d neg => oEq d neg
  | .un op => oUn op
  | .convInt k => oConvInt k
  | .intStr => oIntStr
  | .strStr => oStrStr
  | .strBytes => oStrBytes
  | .bytesStr => oBytesStr
  | .runesStr => oRunesStr
  | .mkIface t => oIface t
  | .mkFn f n => oFn f n
  | .makeSlice k z => oMakeSlice k z
  | .sliceStr lo hi => oSliceStr lo hi
  | .slice k lo hi mx => oSlice k lo hi mx
  | .sliceArr n k lo hi => oSliceArr n k lo hi
  | .fieldAddr o => oFieldAddr o
  | .field k o => oField k o
  | .indexAddr k => oIndexAddr k
  | .indexArr n s => oIndexArr n s
  | .indexStr => oIndexStr
  | .indexAgg n k => oIndexAgg n k
  | .range => oRange
  | .next => oNext
  | .assertT a z o => oAssertT a z o
  | .extract i => oExtract i
  | .len s => oLen s
  | .append k => oAppend k
  | .copy k => oCopy k
  | .clear k z => oClear k z
  | .min => oMin
  | .max => oMax
  | .callF _ => fun _ _ _ => none
  | .callV => fun _ _ _ => none
  | .bad _ => fun _ _ _ => none

inductive Ex where
  | normal | exit (id : Nat) | ret

structure G where
  fun_ : Nat → Option (DFun ⊕ OpF)

inductive Task where
  | call (f : Nat) (args : List AV)
  | code (c : DCode) (tm : PT AV)

inductive Out where
  | v (v : AV) (hp : PT HO) (c : Nat)
  | x (e : Ex) (tm : PT AV) (hp : PT HO) (c : Nat)

def putAll : List AV → Nat → PT AV → PT AV
  | [], _, t => t
  | v :: vs, i, t => putAll vs (i + 1) (t.set i v)
/-- slots without a value yet -/
def undefs : Nat → Nat → PT AV → PT AV
  | 0, _, t => t
  | n + 1, i, t => undefs n (i + 1) (t.set i (.tup []))

mutual
def same : AV → AV → Bool
  | .bool a, .bool b => a == b
  | .int k a, .int j b => k == j && intEq a b
  | .str a, .str b => strEq a b
  | .ptr a i, .ptr b j => Nat.beq a b && Nat.beq i j
  | .rop a i, .rop b j => sames a b && Nat.beq i j
  | .nilp, .nilp => true
  | .nils, .nils => true
  | .sl a x, .sl b y => sames a b && x == y
  | .arr a i l k, .arr b j m n => Nat.beq a b && Nat.beq i j && Nat.beq l m && k == n
  | .fn f a b, .fn g c d => Nat.beq f g && sames a c && sames b d
  | .nilf, .nilf => true
  | .iface s u, .iface t v => Nat.beq s t && same u v
  | .nili, .nili => true
  | .agg a, .agg b => sames a b
  | .tup a, .tup b => sames a b
  | .mp a, .mp b => Nat.beq a b
  | .nilm, .nilm => true
  | _, _ => false
def sames : List AV → List AV → Bool
  | [], [] => true
  | a :: x, b :: y => same a b && sames x y
  | _, _ => false
end

/-- what became of an operation in a region that draws its order -/
inductive Ev where
  | no
  | rd (op : DOp) (vs : List AV) (v : AV)
  | ef (h1 h2 : PT HO)
  | st (id : Nat) (h1 h2 : PT HO)
  | al (id : Nat) (z : List AV)

def readsAs (hp : PT HO) (op : DOp) (vs : List AV) (v : AV) : Bool :=
  match opRun op vs hp 0 with
  | some (u, _, _) => same u v
  | none => false
def rdFine : Ev → Ev → Bool
  | .rd op vs v, .ef h1 h2 => readsAs h1 op vs v && readsAs h2 op vs v
  | .rd op vs v, .st _ h1 h2 => readsAs h1 op vs v && readsAs h2 op vs v
  | _, _ => true
def stFine : Ev → Ev → Bool
  | .st a _ _, .st b _ _ => !Nat.beq a b
  | _, _ => true
def still (hp : PT HO) (id : Nat) (z : List AV) : Bool :=
  match hp.get id with
  | some (.cells cs) => sames cs z
  | _ => false
def alFine : Ev → Ev → Bool
  | .al id z, .ef _ h2 => still h2 id z
  | .al id z, .st _ _ h2 => still h2 id z
  | _, _ => true
def evAt : List Ev → Nat → Ev
  | [], _ => .no
  | e :: _, 0 => e
  | _ :: l, n + 1 => evAt l n
def pairsFine (f : Ev → Ev → Bool) (l : List Ev) : List (Nat × Nat) → Bool
  | [] => true
  | (i, j) :: r => f (evAt l i) (evAt l j) && pairsFine f l r

/-- lay the objects of the early allocations -/
def laid : List DOper → PT HO → Nat → PT HO × Nat
  | [], hp, c => (hp, c)
  | o :: r, hp, c => match o.op with
    | .pre _ z => laid r (hp.set c (.cells z)) (c + 1)
    | _ => laid r hp c

section
variable (rec : Task → PT HO → Nat → Option Out)

def callRes (f : Nat) (args : List AV) (hp : PT HO) (c : Nat) : Res :=
  match rec (.call f args) hp c with
  | some (.v v hp c) => some (v, hp, c)
  | _ => none

def doOp (op : DOp) (vs : List AV) (hp : PT HO) (c : Nat) : Res :=
  match op with
  | .callF f => callRes rec f vs hp c
  | .callV => (match vs with
    | .fn f a b :: vs => callRes rec f (a ++ vs ++ b) hp c
    | _ => none)
  | op => opRun op vs hp c

/-- is it to be carried out? -/
def wants (o : DOper) (tm : PT AV) : Bool :=
  match o.guard with
  | none => true
  | some (s, b) => (match tm.get s with | some (.bool b') => (bif b then b' else !b') | _ => false)

def opsRun : List DOper → PT AV → PT HO → Nat → Option Out
  | [], tm, hp, c => some (.x .normal tm hp c)
  | o :: rest, tm, hp, c =>
    match wants o tm with
    | true => (match opvs tm o.args with
      | some vs => (match doOp rec o.op vs hp c with
        | some (v, hp, c) => (match putT tm o.dst v with | some tm => opsRun rest tm hp c | none => none)
        | none => none)
      | none => none)
    | false => (match putT tm o.dst (.tup []) with | some tm => opsRun rest tm hp c | none => none)

def evOf (base : Nat) (op : DOp) (vs : List AV) (v : AV) (h1 h2 : PT HO) : Ev :=
  match Cls.of op with
  | .pure => .no
  | .read => .rd op vs v
  | .eff => .ef h1 h2
  | .store => (match vs with | .ptr id _ :: _ => .st id h1 h2 | _ => .ef h1 h2)
  | .pre => (match op with | .pre m z => .al (base + m) z | _ => .no)

def doOpAt (base : Nat) (op : DOp) (vs : List AV) (hp : PT HO) (c : Nat) : Res :=
  match op with
  | .pre m _ => ok (.ptr (base + m) 0) hp c
  | op => doOp rec op vs hp c

/-- the same, with a record of what was done -/
def opsLog (base : Nat) : List DOper → PT AV → PT HO → Nat → Option (List Ev × PT AV × PT HO × Nat)
  | [], tm, hp, c => some ([], tm, hp, c)
  | o :: rest, tm, hp, c =>
    match wants o tm with
    | true => (match opvs tm o.args with
      | some vs => (match doOpAt rec base o.op vs hp c with
        | some (v, hp', c') => (match putT tm o.dst v with
          | some tm' => (match opsLog base rest tm' hp' c' with
            | some (l, r) => some (evOf base o.op vs v hp hp' :: l, r)
            | none => none)
          | none => none)
        | none => none)
      | none => none)
    | false => (match putT tm o.dst (.tup []) with
      | some tm' => (match opsLog base rest tm' hp c with
        | some (l, r) => some (.no :: l, r)
        | none => none)
      | none => none)

def drawRun (l : List DOper) (rd st al : List (Nat × Nat)) (tm : PT AV) (hp : PT HO) (c : Nat) : Option Out :=
  match laid l hp c with
  | (h0, c0) => match opsLog rec c l tm h0 c0 with
    | some (ev, tm, hp, c) => bif pairsFine rdFine ev rd && pairsFine stFine ev st && pairsFine alFine ev al then some (.x .normal tm hp c) else none
    | none => none

def codeRun : DCode → PT AV → PT HO → Nat → Option Out
  | .skip, tm, hp, c => some (.x .normal tm hp c)
  | .ops l, tm, hp, c => opsRun rec l tm hp c
  | .draw l rd st al, tm, hp, c => drawRun rec l rd st al tm hp c
  | .seq a b, tm, hp, c => match codeRun a tm hp c with
    | some (.x .normal tm hp c) => codeRun b tm hp c
    | r => r
  | .cond x a b, tm, hp, c => match opv tm x with
    | some (.bool true) => codeRun a tm hp c
    | some (.bool false) => codeRun b tm hp c
    | _ => none
  | .block id b, tm, hp, c => match codeRun b tm hp c with
    | some (.x (.exit i) tm hp c) => (bif Nat.beq i id then some (.x .normal tm hp c) else some (.x (.exit i) tm hp c))
    | r => r
  | .loop b, tm, hp, c => match codeRun b tm hp c with
    | some (.x .normal tm hp c) => rec (.code (.loop b) tm) hp c
    | r => r
  | .exit i, tm, hp, c => some (.x (.exit i) tm hp c)
  | .ret, tm, hp, c => some (.x .ret tm hp c)
  | .bad _, _, _, _ => none

def resVals (hp : PT HO) (tm : PT AV) : List (Nat × Option (Option Nat)) → Option (List AV)
  | [] => some []
  | (t, none) :: r => match tm.get t, resVals hp tm r with
    | some v, some l => some (v :: l)
    | _, _ => none
  | (t, some k) :: r => match tm.get t, resVals hp tm r with
    | some a, some l => (match loadK hp k a with | some v => some (v :: l) | none => none)
    | _, _ => none

def one : List AV → AV
  | [v] => v
  | vs => .tup vs

def finish (d : DFun) (tm : PT AV) (hp : PT HO) (c : Nat) : Option Out :=
  match resVals hp tm d.results with
  | none => none
  | some vs =>
    bif d.freezePtr then (match freeze 100000 true true hp (one vs) with | some (v, hp) => some (.v v hp c) | none => none)
    else bif d.freezeRet then (match freeze 100000 false true hp (one vs) with | some (v, hp) => some (.v v hp c) | none => none)
    else some (.v (one vs) hp c)

def enter (d : DFun) (args : List AV) (hp : PT HO) (c : Nat) : Option Out :=
  match (bif d.freezeArg then freezes 100000 false true hp args else some (args, hp)) with
  | none => none
  | some (args, hp) =>
    match codeRun rec d.body (undefs (d.ntmps - args.length) args.length (putAll args 0 .nil)) hp c with
    | some (.x .normal tm hp c) => finish d tm hp c
    | some (.x .ret tm hp c) => finish d tm hp c
    | _ => none

def step (g : G) : Task → PT HO → Nat → Option Out
  | .call f args, hp, c => match g.fun_ f with
    | some (.inl d) => enter rec d args hp c
    | some (.inr p) => (match p args hp c with | some (v, hp, c) => some (.v v hp c) | none => none)
    | none => none
  | .code cd tm, hp, c => codeRun rec cd tm hp c
end

def run (g : G) : Nat → Task → PT HO → Nat → Option Out
  | 0, _, _, _ => none
  | n + 1, t, hp, c => step (run g n) g t hp c

end Det
namespace Det
open Go

inductive Tag where
  | free | ro | own (id : Nat)

/-- where an object lies: its block, its first cell, how many cells it has, how many with the spare ones -/
structure Loc where
  b : Nat
  o : Nat
  n : Nat
  N : Nat

structure Gh where
  loc : Nat → Option Loc
  tag : Nat → Nat → Tag
  res : Nat → Prop   -- numbers kept for objects that are laid later

def cellAt (w : World) (b o : Nat) : Option Value := w.cell? ⟨b, o, none⟩

inductive VR (g : Gh) (w : World) : AV → Value → Prop
  | bool (b : Bool) : VR g w (.bool b) (.bool b)
  | int (k : IntKind) (n : Int) : VR g w (.int k n) (.int k n)
  | str (s : List UInt8) (s' : ByteArray) : s'.data.toList = s → VR g w (.str s) (.string s')
  | nilp : VR g w .nilp (.pointer none)
  | nils : VR g w .nils (.slice none 0 0)
  | nilf : VR g w .nilf .nilFunc
  | nili : VR g w .nili .nilIface
  | ptr (id off : Nat) (L : Loc) : g.loc id = some L → VR g w (.ptr id off) (.pointer (some ⟨L.b, L.o + off, none⟩))
  | rop (cells : List AV) (off b o : Nat) (cv : Nat → Value) :
      (∀ k x, cells[k]? = some x → g.tag b (o + k) = .ro ∧ cellAt w b (o + k) = some (cv k)) →
      (∀ k x, cells[k]? = some x → VR g w x (cv k)) → VR g w (.rop cells off) (.pointer (some ⟨b, o + off, none⟩))
  | sl0 (ex : Bool) (a : Addr) (cap : Nat) : (ex = true → cap = 0) → VR g w (.sl [] ex) (.slice (some a) 0 cap)
  | sl (xs : List AV) (ex : Bool) (b o n cap : Nat) (cv : Nat → Value) (kk : Option Nat) : n = xs.length → (∀ x, x ∈ xs → shp x = kk) → (ex = true → cap = n) → n ≤ cap →
      (∀ k x, (flat xs)[k]? = some x → g.tag b (o + k) = .ro ∧ cellAt w b (o + k) = some (cv k)) →
      (∀ k x, (flat xs)[k]? = some x → VR g w x (cv k)) → VR g w (.sl xs ex) (.slice (some ⟨b, o, none⟩) n cap)
  | arr0 (id off : Nat) (k : Option Nat) (a : Addr) (L : Loc) : g.loc id = some L → L.n ≤ off → 0 < ksz k → VR g w (.arr id off 0 k) (.slice (some a) 0 0)
  | arr (id off len : Nat) (k : Option Nat) (L : Loc) (cap : Nat) : g.loc id = some L → 0 < ksz k → L.n ≤ off + cap * ksz k → off + cap * ksz k ≤ L.N →
      len ≤ cap → VR g w (.arr id off len k) (.slice (some ⟨L.b, L.o + off, none⟩) len cap)
  | fn (f : FuncId) (x y : List AV) (x' y' : Array Value) : x.length = x'.size → y.length = y'.size →
      (∀ k v, x[k]? = some v → VR g w v (x'.getD k undef)) → (∀ k v, y[k]? = some v → VR g w v (y'.getD k undef)) →
      VR g w (.fn f x y) (.func (.func f) x' y')
  | iface (t : TypeId) (v : AV) (v' : Value) : VR g w v v' → VR g w (.iface t v) (.iface t v')
  | agg (cs : List AV) (vs : Array Value) : cs.length = vs.size → (∀ k x, cs[k]? = some x → VR g w x (vs.getD k undef)) → VR g w (.agg cs) (.agg vs)
  | tup (cs : List AV) (vs : Array Value) : cs.length = vs.size → (∀ k x, cs[k]? = some x → VR g w x (vs.getD k undef)) → VR g w (.tup cs) (.tuple vs)

/-- what one step, or many, leave as it was -/
structure Ext (B0 : Nat) (g : Gh) (w : World) (g' : Gh) (w' : World) : Prop where
  loc : ∀ id L, g.loc id = some L → g'.loc id = some L
  ro : ∀ b o, g.tag b o = .ro → g'.tag b o = .ro ∧ cellAt w' b o = cellAt w b o
  base : ∀ k, k < B0 → w'.heap[k]? = w.heap[k]?
  os : w'.os = w.os
  output : w'.output = w.output
  size : w.heap.size ≤ w'.heap.size
  res : ∀ id, g'.res id ↔ g.res id
  low : ∀ b o, b < B0 → g'.tag b o = g.tag b o

theorem Ext.refl (B0 : Nat) (g : Gh) (w : World) : Ext B0 g w g w :=
  ⟨fun _ _ h => h, fun _ _ h => ⟨h, rfl⟩, fun _ _ => rfl, rfl, rfl, Nat.le_refl _, fun _ => Iff.rfl, fun _ _ _ => rfl⟩
theorem Ext.trans {B0 : Nat} {g g' g'' : Gh} {w w' w'' : World} (h : Ext B0 g w g' w') (k : Ext B0 g' w' g'' w'') : Ext B0 g w g'' w'' :=
  ⟨fun id L e => k.loc id L (h.loc id L e),
   fun b o e => ⟨(k.ro b o (h.ro b o e).1).1, ((k.ro b o (h.ro b o e).1).2).trans (h.ro b o e).2⟩,
   fun i hi => (k.base i hi).trans (h.base i hi), k.os.trans h.os, k.output.trans h.output, Nat.le_trans h.size k.size, fun id => (k.res id).trans (h.res id), fun b o hb => (k.low b o hb).trans (h.low b o hb)⟩

/-- only what readings of values lean on -/
structure Sub (g : Gh) (w : World) (g' : Gh) (w' : World) : Prop where
  loc : ∀ id L, g.loc id = some L → g'.loc id = some L
  ro : ∀ b o, g.tag b o = .ro → g'.tag b o = .ro ∧ cellAt w' b o = cellAt w b o

theorem Ext.sub {B0 : Nat} {g g' : Gh} {w w' : World} (h : Ext B0 g w g' w') : Sub g w g' w' := ⟨h.loc, h.ro⟩

theorem VR.mono {g g' : Gh} {w w' : World} (h : Sub g w g' w') {x : AV} {v : Value} (r : VR g w x v) : VR g' w' x v := by
  induction r with
  | bool b => exact .bool b
  | int k n => exact .int k n
  | str s s' e => exact .str s s' e
  | nilp => exact .nilp
  | nils => exact .nils
  | nilf => exact .nilf
  | nili => exact .nili
  | ptr id off L e => exact .ptr id off L (h.loc _ _ e)
  | rop cells off b o cv hc _ ih =>
    exact .rop cells off b o cv (fun k x e => ⟨(h.ro _ _ (hc k x e).1).1, ((h.ro _ _ (hc k x e).1).2).trans (hc k x e).2⟩) ih
  | sl0 ex a cap e => exact .sl0 ex a cap e
  | sl xs ex b o n cap cv kk hn hk h1 h2 hc _ ih =>
    exact .sl xs ex b o n cap cv kk hn hk h1 h2 (fun k x e => ⟨(h.ro _ _ (hc k x e).1).1, ((h.ro _ _ (hc k x e).1).2).trans (hc k x e).2⟩) ih
  | arr0 id off k a L e h1 h2 => exact .arr0 id off k a L (h.loc _ _ e) h1 h2
  | arr id off len k L cap e h0 h1 h2 h3 => exact .arr id off len k L cap (h.loc _ _ e) h0 h1 h2 h3
  | fn f x y x' y' h1 h2 _ _ ih1 ih2 => exact .fn f x y x' y' h1 h2 ih1 ih2
  | iface t v v' _ ih => exact .iface t v v' ih
  | agg cs vs h1 _ ih => exact .agg cs vs h1 ih
  | tup cs vs h1 _ ih => exact .tup cs vs h1 ih

def Own1 (g : Gh) (w : World) (id : Nat) (L : Loc) : Option HO → Prop
  | some (.cells cs) => cs.length = L.n ∧ L.n ≤ L.N ∧
      (∀ k, k < L.N → g.tag L.b (L.o + k) = .own id ∧ (∃ cv, cellAt w L.b (L.o + k) = some cv) ∧ w.frozen? ⟨L.b, L.o + k, none⟩ = false) ∧
      (∀ k x, cs[k]? = some x → ∃ cv, cellAt w L.b (L.o + k) = some cv ∧ VR g w x cv)
  | some (.iter s pos) => ∃ s' : ByteArray, w.heap[L.b]? = some (.stringIter s' pos) ∧ s'.data.toList = s ∧ g.tag L.b 0 = .own id ∧ L.o = 0
  | some (.map _) => False
  | _ => True

def live : Option HO → Bool
  | some (.cells _) => true
  | some (.iter _ _) => true
  | _ => false

theorem Own1.of_dead {g : Gh} {w : World} {id : Nat} {L : Loc} {x : Option HO} (h : live x = false) (hm : ∀ es, x ≠ some (.map es)) : Own1 g w id L x := by
  unfold live at h
  cases x with
  | none => trivial
  | some x => cases x <;> first | (cases h; done) | trivial | exact absurd rfl (hm _)

/-- the world is as the objects say -/
structure WR (GC : GT) (B0 : Nat) (g : Gh) (hp : PT HO) (c : Nat) (w : World) : Prop where
  obj : ∀ id L, g.loc id = some L → Own1 g w id L (hp.get id)
  fresh : ∀ id L, g.loc id = some L → id < c
  tagged : ∀ b o, g.tag b o ≠ .free → b < w.heap.size
  owned : ∀ b o id, g.tag b o = .own id → ∃ L, g.loc id = some L ∧ L.b = b
  place : ∀ id L, g.loc id = some L → B0 ≤ L.b ∧ L.b < w.heap.size
  uniq : ∀ id id' L L', g.loc id = some L → g.loc id' = some L' → L.b = L'.b → live (hp.get id) = true → live (hp.get id') = true → id = id'
  base : B0 ≤ w.heap.size
  kept : ∀ id, g.res id → g.loc id = none ∧ id < c
  glob : ∀ gi cs, GC gi = some cs → ∃ cv : Nat → Value, ∀ k x, cs[k]? = some x → g.tag gi k = .ro ∧ cellAt w gi k = some (cv k) ∧ VR g w x (cv k)

/-- slots -/
def TM (g : Gh) (w : World) (tm : PT AV) (a : Act) : Prop :=
  ∀ n v, tm.get n = some v → n < a.tmps.size ∧ VR g w v (a.tmps.getD n undef)

theorem TM.mono {g g' : Gh} {w w' : World} (h : Sub g w g' w') {tm : PT AV} {a : Act} (r : TM g w tm a) : TM g' w' tm a :=
  fun n v e => ⟨(r n v e).1, (r n v e).2.mono h⟩

theorem TM.put {g : Gh} {w : World} {tm tm' : PT AV} {a : Act} (r : TM g w tm a) {d : Option Nat} {v : AV} {cv : Value} (hv : VR g w v cv)
    (hp : putT tm d v = some tm') : TM g w tm' (a.put d cv) := by
  cases d with
  | none => simp only [putT, Option.some.injEq] at hp; subst hp; exact r
  | some d =>
    simp only [putT] at hp
    cases hd : tm.get d with
    | none => rw [hd] at hp; cases hp
    | some u =>
      rw [hd] at hp
      simp only [Option.some.injEq] at hp
      subst hp
      intro n x hx
      rw [PT.get_set] at hx
      have hsz : (a.put (some d) cv).tmps.size = a.tmps.size := by simp [Act.put]
      rw [hsz]
      by_cases e : n = d
      · subst e
        rw [if_pos rfl] at hx
        simp only [Option.some.injEq] at hx
        subst hx
        have hlt := (r n u hd).1
        refine ⟨hlt, ?_⟩
        have : (a.put (some n) cv).tmps.getD n undef = cv := by simp [Act.put, Array.getD_eq_getD_getElem?, hlt]
        rw [this]; exact hv
      · rw [if_neg e] at hx
        refine ⟨(r n x hx).1, ?_⟩
        have : (a.put (some d) cv).tmps.getD n undef = a.tmps.getD n undef := by
          simp [Act.put, Array.getD_eq_getD_getElem?, Array.getElem?_setIfInBounds_ne (Ne.symm e)]
        rw [this]; exact (r n x hx).2

-- constants
mutual
theorem ofV_VR (g : Gh) (w : World) : ∀ (v : Value) (x : AV), ofV v = some x → VR g w x v
  | .bool b, x, h => by simp only [ofV, Option.some.injEq] at h; subst h; exact .bool b
  | .int k n, x, h => by simp only [ofV, Option.some.injEq] at h; subst h; exact .int k n
  | .string s, x, h => by simp only [ofV, Option.some.injEq] at h; subst h; exact .str _ _ rfl
  | .pointer none, x, h => by simp only [ofV, Option.some.injEq] at h; subst h; exact .nilp
  | .pointer (some _), x, h => by simp [ofV] at h
  | .slice none 0 0, x, h => by simp only [ofV, Option.some.injEq] at h; subst h; exact .nils
  | .slice none 0 (n + 1), x, h => by simp [ofV] at h
  | .slice none (n + 1) m, x, h => by simp [ofV] at h
  | .slice (some _) _ _, x, h => by simp [ofV] at h
  | .nilFunc, x, h => by simp only [ofV, Option.some.injEq] at h; subst h; exact .nilf
  | .nilIface, x, h => by simp only [ofV, Option.some.injEq] at h; subst h; exact .nili
  | .agg ⟨cs⟩, x, h => by
    simp only [ofV] at h
    cases hc : ofVs cs with
    | none => rw [hc] at h; cases h
    | some l =>
      rw [hc] at h; simp only [Option.map_some, Option.some.injEq] at h; subst h
      obtain ⟨h1, h2⟩ := ofVs_VR g w cs l hc
      exact .agg l ⟨cs⟩ (by simpa using h1) (fun k x e => by have := h2 k x e; simpa [Array.getD_eq_getD_getElem?, List.getD_eq_getElem?_getD] using this)
  | .tuple ⟨cs⟩, x, h => by
    simp only [ofV] at h
    cases hc : ofVs cs with
    | none => rw [hc] at h; cases h
    | some l =>
      rw [hc] at h; simp only [Option.map_some, Option.some.injEq] at h; subst h
      obtain ⟨h1, h2⟩ := ofVs_VR g w cs l hc
      exact .tup l ⟨cs⟩ (by simpa using h1) (fun k x e => by have := h2 k x e; simpa [Array.getD_eq_getD_getElem?, List.getD_eq_getElem?_getD] using this)
  | .float .., x, h => by simp [ofV] at h
  | .complex .., x, h => by simp [ofV] at h
  | .map .., x, h => by simp [ofV] at h
  | .chan .., x, h => by simp [ofV] at h
  | .func .., x, h => by simp [ofV] at h
  | .iface .., x, h => by simp [ofV] at h
theorem ofVs_VR (g : Gh) (w : World) : ∀ (vs : List Value) (xs : List AV), ofVs vs = some xs →
    xs.length = vs.length ∧ ∀ k x, xs[k]? = some x → VR g w x (vs.getD k undef)
  | [], xs, h => by simp only [ofVs, Option.some.injEq] at h; subst h; exact ⟨rfl, fun k x e => by simp at e⟩
  | v :: vs, xs, h => by
    simp only [ofVs] at h
    cases h1 : ofV v with
    | none => rw [h1] at h; cases h
    | some a =>
      cases h2 : ofVs vs with
      | none => rw [h1, h2] at h; cases h
      | some b =>
        rw [h1, h2] at h; simp only [Option.some.injEq] at h; subst h
        obtain ⟨g1, g2⟩ := ofVs_VR g w vs b h2
        refine ⟨by simp [g1], fun k x e => ?_⟩
        cases k with
        | zero => simp only [List.getElem?_cons_zero, Option.some.injEq] at e; subst e; simpa using ofV_VR g w v a h1
        | succ k => simp only [List.getElem?_cons_succ] at e; simpa using g2 k x e
end

theorem opd_VR {GC : GT} {B0 : Nat} {g : Gh} {hp : PT HO} {c : Nat} {w : World} (hW : WR GC B0 g hp c w) {tm : PT AV} {a : Act} (hT : TM g w tm a)
    {x : Operand} {y : Opd} {v : AV} (h : opd GC x = some y) (hv : opv tm y = some v) : VR g w v (a.eval x) := by
  cases x with
  | tmp t =>
    simp only [opd, Option.some.injEq] at h; subst h
    exact (hT t v hv).2
  | const u =>
    simp only [opd] at h
    cases hu : ofV u with
    | none => rw [hu] at h; cases h
    | some z =>
      rw [hu] at h; simp only [Option.map_some, Option.some.injEq] at h; subst h
      simp only [opv, Option.some.injEq] at hv; subst hv
      exact ofV_VR g w u z hu
  | global gi =>
    simp only [opd] at h
    cases hu : GC gi with
    | none => rw [hu] at h; cases h
    | some z =>
      rw [hu] at h; simp only [Option.map_some, Option.some.injEq] at h; subst h
      simp only [opv, Option.some.injEq] at hv; subst hv
      obtain ⟨cv, hcv⟩ := hW.glob gi z hu
      have := VR.rop (g := g) (w := w) z 0 gi 0 cv (fun k x e => by have := hcv k x e; simp only [Nat.zero_add]; exact ⟨this.1, this.2.1⟩) (fun k x e => (hcv k x e).2.2)
      exact this
  | func f =>
    simp only [opd, Option.some.injEq] at h; subst h
    simp only [opv, Option.some.injEq] at hv; subst hv
    exact .fn f [] [] #[] #[] rfl rfl (fun k v e => by simp at e) (fun k v e => by simp at e)

/-- the operands -/
def VRs (g : Gh) (w : World) : List AV → List Value → Prop
  | [], [] => True
  | x :: xs, v :: vs => VR g w x v ∧ VRs g w xs vs
  | _, _ => False

theorem opds_VR {GC : GT} {B0 : Nat} {g : Gh} {hp : PT HO} {c : Nat} {w : World} (hW : WR GC B0 g hp c w) {tm : PT AV} {a : Act} (hT : TM g w tm a) :
    ∀ (xs : List Operand) (ys : List Opd) (vs : List AV), opds GC xs = some ys → opvs tm ys = some vs → VRs g w vs (xs.map a.eval)
  | [], ys, vs, h, hv => by
    simp only [opds, Option.some.injEq] at h; subst h
    simp only [opvs, Option.some.injEq] at hv; subst hv
    exact trivial
  | x :: xs, ys, vs, h, hv => by
    simp only [opds] at h
    cases h1 : opd GC x with
    | none => rw [h1] at h; cases h
    | some y =>
      cases h2 : opds GC xs with
      | none => rw [h1, h2] at h; cases h
      | some ys' =>
        rw [h1, h2] at h; simp only [Option.some.injEq] at h; subst h
        simp only [opvs] at hv
        cases h3 : opv tm y with
        | none => rw [h3] at hv; cases hv
        | some v =>
          cases h4 : opvs tm ys' with
          | none => rw [h3, h4] at hv; cases hv
          | some vs' =>
            rw [h3, h4] at hv; simp only [Option.some.injEq] at hv; subst hv
            exact ⟨opd_VR hW hT h1 h3, opds_VR hW hT xs ys' vs' h2 h4⟩

theorem VRs.get {g : Gh} {w : World} : ∀ {xs : List AV} {vs : List Value}, VRs g w xs vs →
    xs.length = vs.length ∧ ∀ (k : Nat) (x : AV), xs[k]? = some x → ∃ v, vs[k]? = some v ∧ VR g w x v
  | [], [], _ => ⟨rfl, fun k x e => by simp at e⟩
  | x :: xs, v :: vs, r => by
    obtain ⟨h1, h2⟩ := VRs.get r.2
    refine ⟨by simp [h1], fun k y e => ?_⟩
    cases k with
    | zero => simp only [List.getElem?_cons_zero, Option.some.injEq] at e; subst e; exact ⟨v, rfl, r.1⟩
    | succ k => exact h2 k y (by simpa using e)
  | [], _ :: _, r => r.elim
  | _ :: _, [], r => r.elim

theorem VRs.mono {g g' : Gh} {w w' : World} (h : Sub g w g' w') : ∀ {xs : List AV} {vs : List Value}, VRs g w xs vs → VRs g' w' xs vs
  | [], [], _ => trivial
  | _ :: _, _ :: _, r => ⟨r.1.mono h, VRs.mono h r.2⟩
  | [], _ :: _, r => r.elim
  | _ :: _, [], r => r.elim

end Det
namespace Det
open Go

/-- the tables are the program's -/
structure Link (P : Program) (T : PT TypeInfo) (E : List Nat) : Prop where
  info : ∀ t i, T.get t = some i → P.info? t = some i
  held : ∀ t, mem t E = true → P.stoodInHeld t = false

section
variable {P : Program} {T : PT TypeInfo} {E : List Nat} (hL : Link P T E)
include hL

theorem Link.under {t : TypeId} {d : TypeDesc} (h : under T t = d) (hd : d ≠ .invalid) : P.underlying t = some d := by
  unfold Det.under at h
  unfold Program.underlying
  cases hi : T.get t with
  | none => rw [hi] at h; exact absurd h.symm hd
  | some i =>
    rw [hi] at h
    rw [hL.info t i hi]
    obtain ⟨desc, str, size, bytes, hp, al, fal, zero, comp, ms⟩ := i
    cases desc with
    | named nm u =>
      simp only at h ⊢
      cases hu : T.get u with
      | none => rw [hu] at h; exact absurd h.symm hd
      | some j => rw [hu] at h; simp only at h; rw [hL.info u j hu, Option.map_some, h]
    | _ => simp only at h ⊢; rw [h]

omit hL in
theorem size_get {t : TypeId} {i : TypeInfo} (h : T.get t = some i) : Det.size T t = i.size := by
  unfold Det.size; rw [h]

omit hL in
/-- a type that has a kind has a row -/
theorem info_of_under {t : TypeId} {d : TypeDesc} (h : P.underlying t = some d) : ∃ i, P.info? t = some i := by
  unfold Program.underlying at h
  cases hi : P.info? t with
  | none => rw [hi] at h; cases h
  | some i => exact ⟨i, rfl⟩

theorem Link.sizeOf {t : TypeId} {d : TypeDesc} (h : Det.under T t = d) (hd : d ≠ .invalid) (w : World) : (Go.sizeOf t).run P w = .ok (Det.size T t) w := by
  cases hi : T.get t with
  | none => unfold Det.under at h; rw [hi] at h; exact absurd h.symm hd
  | some i =>
    have := size_get hi
    simp [Go.sizeOf, typeInfo, hL.info t i hi, this]

theorem Link.kind {t : TypeId} {k : Option Nat} (h : kindOf T t = some k) (w : World) :
    (∃ d, P.underlying t = some d) ∧ 0 < ksz k ∧ Det.size T t = ksz k ∧
    (Go.isAgg t).run P w = .ok k.isSome w ∧ (Go.sizeOf t).run P w = .ok (ksz k) w := by
  unfold kindOf at h
  have key : ∀ d, Det.under T t = d → d ≠ .invalid → (∃ d, P.underlying t = some d) ∧ (Go.sizeOf t).run P w = .ok (Det.size T t) w := fun d hd hn =>
    ⟨⟨d, hL.under hd hn⟩, hL.sizeOf hd hn w⟩
  cases hd : Det.under T t with
  | invalid => rw [hd] at h; cases h
  | struct fs =>
    obtain ⟨k1, k2⟩ := key _ hd (by simp)
    rw [hd] at h; simp only at h
    cases hz : Nat.beq (Det.size T t) 0 with
    | true => rw [hz] at h; cases h
    | false =>
      rw [hz] at h; simp only [cond_false, Option.some.injEq] at h; subst h
      have : Det.size T t ≠ 0 := fun e => by rw [e] at hz; cases hz
      exact ⟨k1, by simp only [ksz]; omega, rfl, by simp [Go.isAgg, run_underlying (hL.under hd (by simp))], k2⟩
  | array n e =>
    obtain ⟨k1, k2⟩ := key _ hd (by simp)
    rw [hd] at h; simp only at h
    cases hz : Nat.beq (Det.size T t) 0 with
    | true => rw [hz] at h; cases h
    | false =>
      rw [hz] at h; simp only [cond_false, Option.some.injEq] at h; subst h
      have : Det.size T t ≠ 0 := fun e => by rw [e] at hz; cases hz
      exact ⟨k1, by simp only [ksz]; omega, rfl, by simp [Go.isAgg, run_underlying (hL.under hd (by simp))], k2⟩
  | _ =>
    all_goals
      obtain ⟨k1, k2⟩ := key _ hd (by simp)
      rw [hd] at h; simp only at h
      cases hz : Nat.beq (Det.size T t) 1 with
      | false => rw [hz] at h; cases h
      | true =>
        rw [hz] at h; simp only [cond_true, Option.some.injEq] at h; subst h
        have e1 : Det.size T t = 1 := Nat.eq_of_beq_eq_true hz
        rw [e1] at k2
        exact ⟨k1, by simp [ksz], by simp [ksz, e1], by simp [Go.isAgg, run_underlying (hL.under hd (by simp))], k2⟩

theorem Link.zero {t : TypeId} {z : AV} (h : zeroAV T t = some z) (g : Gh) (w : World) :
    ∃ v, VR g w z v ∧ ∀ w, (zeroValue t).run P w = .ok v w := by
  unfold zeroAV at h
  cases hT : T.get t with
  | none => rw [hT] at h; cases h
  | some i =>
    rw [hT] at h
    have hi := hL.info t i hT
    obtain ⟨desc, str, size, bytes, hp, al, fal, zero, comp, ms⟩ := i
    cases zero with
    | none => simp at h
    | some v =>
      simp only at h
      exact ⟨v, ofV_VR g w v z h, fun w => by simp [zeroValue, typeInfo, hi]⟩
end

-- ------------------------------------------------------------------ cells of values

theorem VR.cells {g : Gh} {w : World} {x : AV} {v : Value} (h : VR g w x v) :
    x.cells.length = v.cells.size ∧ ∀ k y, x.cells[k]? = some y → VR g w y (v.cells.getD k undef) := by
  have one : ∀ (x : AV) (v : Value), x.cells = [x] → v.cells = #[v] → VR g w x v →
      x.cells.length = v.cells.size ∧ ∀ k y, x.cells[k]? = some y → VR g w y (v.cells.getD k undef) := by
    intro x v e1 e2 hx
    rw [e1, e2]
    refine ⟨rfl, fun k y e => ?_⟩
    cases k with
    | zero => simp only [List.getElem?_cons_zero, Option.some.injEq] at e; subst e; simpa using hx
    | succ k => simp at e
  cases h with
  | agg cs vs h1 h2 => exact ⟨h1, h2⟩
  | bool b => exact one _ _ rfl rfl (.bool b)
  | int k n => exact one _ _ rfl rfl (.int k n)
  | str s s' e => exact one _ _ rfl rfl (.str s s' e)
  | nilp => exact one _ _ rfl rfl .nilp
  | nilf => exact one _ _ rfl rfl .nilf
  | nili => exact one _ _ rfl rfl .nili
  | ptr id off L e => exact one _ _ rfl rfl (.ptr id off L e)
  | rop cells off b o cv hc h => exact one _ _ rfl rfl (.rop cells off b o cv hc h)
  | nils => exact one _ _ rfl rfl .nils
  | sl0 ex a cap e => exact one _ _ rfl rfl (.sl0 ex a cap e)
  | sl xs ex b o n cap cv kk hn hk h1 h2 hc h => exact one _ _ rfl rfl (.sl xs ex b o n cap cv kk hn hk h1 h2 hc h)
  | arr0 id off k a L e h1 h2 => exact one _ _ rfl rfl (.arr0 id off k a L e h1 h2)
  | arr id off len k L cap e h0 h1 h2 h3 => exact one _ _ rfl rfl (.arr id off len k L cap e h0 h1 h2 h3)
  | fn f x y x' y' h1 h2 h3 h4 => exact one _ _ rfl rfl (.fn f x y x' y' h1 h2 h3 h4)
  | iface t v v' h => exact one _ _ rfl rfl (.iface t v v' h)
  | tup cs vs h1 h2 => exact one _ _ rfl rfl (.tup cs vs h1 h2)

theorem VR.plain {g : Gh} {w : World} {x : AV} {v : Value} (h : VR g w x v) (hp : plain1 x = true) : v.oneCell' = true := by
  cases h <;> first | rfl | (simp [plain1] at hp)

theorem plains_get : ∀ {l : List AV}, plains l = true → ∀ (k : Nat) (x : AV), l[k]? = some x → plain1 x = true
  | [], _, k, x, e => by simp at e
  | y :: l, h, k, x, e => by
    simp only [plains, Bool.and_eq_true] at h
    cases k with
    | zero => simp only [List.getElem?_cons_zero, Option.some.injEq] at e; subst e; exact h.1
    | succ k => exact plains_get h.2 k x (by simpa using e)

-- ------------------------------------------------------------------ lists

theorem dropN_eq : ∀ (n : Nat) (l : List AV), dropN n l = l.drop n
  | 0, l => by simp [dropN]
  | n + 1, [] => by simp [dropN]
  | n + 1, x :: l => by simp [dropN, dropN_eq n l]
theorem takeN_eq : ∀ (n : Nat) (l r : List AV), takeN n l = some r → n ≤ l.length ∧ r = l.take n
  | 0, l, r, h => by simp only [takeN, Option.some.injEq] at h; subst h; simp
  | n + 1, [], r, h => by simp [takeN] at h
  | n + 1, x :: l, r, h => by
    simp only [takeN] at h
    cases h1 : takeN n l with
    | none => rw [h1] at h; cases h
    | some q =>
      rw [h1] at h; simp only [Option.some.injEq] at h; subst h
      obtain ⟨e1, e2⟩ := takeN_eq n l q h1
      exact ⟨by simp; omega, by rw [e2]; rfl⟩
theorem nth_eq : ∀ (l : List AV) (n : Nat), nth l n = l[n]?
  | [], n => by simp [nth]
  | x :: l, 0 => by simp [nth]
  | x :: l, n + 1 => by simp [nth, nth_eq l n]
theorem over_eq : ∀ (cs vs r : List AV), over cs vs = some r → vs.length ≤ cs.length ∧ r = vs ++ cs.drop vs.length
  | cs, [], r, h => by cases cs <;> (simp only [over, Option.some.injEq] at h; subst h; simp)
  | [], v :: vs, r, h => by simp [over] at h
  | c :: cs, v :: vs, r, h => by
    simp only [over] at h
    cases h1 : over cs vs with
    | none => rw [h1] at h; cases h
    | some q =>
      rw [h1] at h; simp only [Option.some.injEq] at h; subst h
      obtain ⟨e1, e2⟩ := over_eq cs vs q h1
      exact ⟨by simp; omega, by rw [e2]; rfl⟩
theorem splice_eq : ∀ (cs : List AV) (n : Nat) (vs r : List AV), splice cs n vs = some r → vs ≠ [] ∨ n ≤ cs.length →
    n + vs.length ≤ cs.length ∧ r = cs.take n ++ vs ++ cs.drop (n + vs.length)
  | cs, 0, vs, r, h, _ => by
    have h' : over cs vs = some r := by cases cs <;> simpa [splice] using h
    obtain ⟨e1, e2⟩ := over_eq cs vs r h'
    exact ⟨by omega, by simp [e2]⟩
  | [], n + 1, [], r, h, hn => by rcases hn with hn | hn <;> simp at hn
  | [], n + 1, v :: vs, r, h, _ => by simp [splice] at h
  | c :: cs, n + 1, vs, r, h, hn => by
    simp only [splice] at h
    cases h1 : splice cs n vs with
    | none => rw [h1] at h; cases h
    | some q =>
      rw [h1] at h; simp only [Option.some.injEq] at h; subst h
      obtain ⟨e1, e2⟩ := splice_eq cs n vs q h1 (hn.imp id (fun h => by simp at h; omega))
      exact ⟨by simp; omega, by rw [e2, show n + 1 + vs.length = n + vs.length + 1 by omega]; simp⟩
theorem splice_len : ∀ (cs : List AV) (n : Nat) (vs r : List AV), splice cs n vs = some r → r.length = cs.length
  | cs, 0, vs, r, h => by
    have h' : over cs vs = some r := by cases cs <;> simpa [splice] using h
    obtain ⟨e1, e2⟩ := over_eq cs vs r h'
    rw [e2]; simp; omega
  | [], n + 1, [], r, h => by simp [splice] at h; subst h; rfl
  | [], n + 1, v :: vs, r, h => by simp [splice] at h
  | c :: cs, n + 1, vs, r, h => by
    simp only [splice] at h
    cases h1 : splice cs n vs with
    | none => rw [h1] at h; cases h
    | some q =>
      rw [h1] at h; simp only [Option.some.injEq] at h; subst h
      simp [splice_len cs n vs q h1]
/-- cell by cell -/
theorem splice_get : ∀ (cs : List AV) (n : Nat) (vs r : List AV), splice cs n vs = some r →
    (∀ k x, vs[k]? = some x → n + k < cs.length) ∧
    ∀ k, r[k]? = if n ≤ k ∧ k < n + vs.length then vs[k - n]? else cs[k]?
  | cs, 0, vs, r, h => by
    have h' : over cs vs = some r := by cases cs <;> simpa [splice] using h
    obtain ⟨e1, e2⟩ := over_eq cs vs r h'
    refine ⟨fun k x e => by have := (List.getElem?_eq_some_iff.1 e).1; omega, fun k => ?_⟩
    subst e2
    by_cases hk : k < vs.length
    · rw [if_pos ⟨Nat.zero_le _, by omega⟩, List.getElem?_append_left hk]; simp
    · rw [if_neg (by omega), List.getElem?_append_right (by omega), List.getElem?_drop]; congr 1; omega
  | [], n + 1, [], r, h => by
    simp [splice] at h; subst h
    exact ⟨fun k x e => by simp at e, fun k => by simp⟩
  | [], n + 1, v :: vs, r, h => by simp [splice] at h
  | c :: cs, n + 1, vs, r, h => by
    simp only [splice] at h
    cases h1 : splice cs n vs with
    | none => rw [h1] at h; cases h
    | some q =>
      rw [h1] at h; simp only [Option.some.injEq] at h; subst h
      obtain ⟨e1, e2⟩ := splice_get cs n vs q h1
      refine ⟨fun k x e => by have := e1 k x e; simp; omega, fun k => ?_⟩
      cases k with
      | zero => simp
      | succ k =>
        simp only [List.getElem?_cons_succ, e2 k]
        by_cases hk : n ≤ k ∧ k < n + vs.length
        · rw [if_pos hk, if_pos (by omega)]; congr 1; omega
        · rw [if_neg hk, if_neg (by omega)]

end Det
namespace Det
open Go

section
variable {P : Program} {T : PT TypeInfo} {E : List Nat} {GC : GT} {B0 : Nat} {g : Gh} {hp : PT HO} {c : Nat} {w : World} {tm : PT AV} {a : Act}

/-- what an operation hands back, the world unturned -/
def Vals (P : Program) (g : Gh) (w : World) (a : Act) (o : Oper) (v : AV) : Prop :=
  ∃ cv, (execOp a.eval o).run P w = .ok (.value cv) w ∧ VR g w v cv

theorem c1_inv {o : DOp} {x : Operand} {d : DOp} {l : List Opd} {vs : List AV} (h : c1 GC o x = some (d, l)) (hv : opvs tm l = some vs)
    (hW : WR GC B0 g hp c w) (hT : TM g w tm a) : d = o ∧ ∃ u, vs = [u] ∧ VR g w u (a.eval x) := by
  unfold c1 at h
  cases h1 : opd GC x with
  | none => rw [h1] at h; cases h
  | some y =>
    rw [h1] at h; simp only [Option.some.injEq, Prod.mk.injEq] at h
    obtain ⟨rfl, rfl⟩ := h
    simp only [opvs] at hv
    cases h2 : opv tm y with
    | none => rw [h2] at hv; cases hv
    | some u => rw [h2] at hv; simp only [Option.some.injEq] at hv; subst hv; exact ⟨rfl, u, rfl, opd_VR hW hT h1 h2⟩

theorem c2_inv {o : DOp} {x y : Operand} {d : DOp} {l : List Opd} {vs : List AV} (h : c2 GC o x y = some (d, l)) (hv : opvs tm l = some vs)
    (hW : WR GC B0 g hp c w) (hT : TM g w tm a) : d = o ∧ ∃ u v, vs = [u, v] ∧ VR g w u (a.eval x) ∧ VR g w v (a.eval y) := by
  unfold c2 at h
  cases h1 : opd GC x with
  | none => rw [h1] at h; cases h
  | some x' =>
    cases h2 : opd GC y with
    | none => rw [h1, h2] at h; cases h
    | some y' =>
      rw [h1, h2] at h; simp only [Option.some.injEq, Prod.mk.injEq] at h
      obtain ⟨rfl, rfl⟩ := h
      simp only [opvs] at hv
      cases h3 : opv tm x' with
      | none => rw [h3] at hv; cases hv
      | some u =>
        cases h4 : opv tm y' with
        | none => rw [h3, h4] at hv; cases hv
        | some v =>
          rw [h3, h4] at hv; simp only [Option.some.injEq] at hv; subst hv
          exact ⟨rfl, u, v, rfl, opd_VR hW hT h1 h3, opd_VR hW hT h2 h4⟩

theorem c3_inv {o : DOp} {x y z : Operand} {d : DOp} {l : List Opd} {vs : List AV} (h : c3 GC o x y z = some (d, l)) (hv : opvs tm l = some vs)
    (hW : WR GC B0 g hp c w) (hT : TM g w tm a) : d = o ∧ ∃ u v s, vs = [u, v, s] ∧ VR g w u (a.eval x) ∧ VR g w v (a.eval y) ∧ VR g w s (a.eval z) := by
  unfold c3 at h
  cases h1 : opd GC x with
  | none => rw [h1] at h; cases h
  | some x' =>
    cases h2 : opd GC y with
    | none => rw [h1, h2] at h; cases h
    | some y' =>
      cases h2' : opd GC z with
      | none => rw [h1, h2, h2'] at h; cases h
      | some z' =>
        rw [h1, h2, h2'] at h; simp only [Option.some.injEq, Prod.mk.injEq] at h
        obtain ⟨rfl, rfl⟩ := h
        simp only [opvs] at hv
        cases h3 : opv tm x' with
        | none => rw [h3] at hv; cases hv
        | some u =>
          cases h4 : opv tm y' with
          | none => rw [h3, h4] at hv; cases hv
          | some v =>
            cases h5 : opv tm z' with
            | none => rw [h3, h4, h5] at hv; cases hv
            | some s =>
              rw [h3, h4, h5] at hv; simp only [Option.some.injEq] at hv; subst hv
              exact ⟨rfl, u, v, s, rfl, opd_VR hW hT h1 h3, opd_VR hW hT h2 h4, opd_VR hW hT h2' h5⟩

theorem cs_inv {o : DOp} {xs : List Operand} {d : DOp} {l : List Opd} {vs : List AV} (h : cs GC o xs = some (d, l)) (hv : opvs tm l = some vs)
    (hW : WR GC B0 g hp c w) (hT : TM g w tm a) : d = o ∧ VRs g w vs (xs.map a.eval) := by
  unfold cs at h
  cases h1 : opds GC xs with
  | none => rw [h1] at h; cases h
  | some l' =>
    rw [h1] at h; simp only [Option.some.injEq, Prod.mk.injEq] at h
    obtain ⟨rfl, rfl⟩ := h
    exact ⟨rfl, opds_VR hW hT xs l' vs h1 hv⟩

theorem ok_inv {v v' : AV} {hp hp' : PT HO} {c c' : Nat} (h : ok v hp c = some (v', hp', c')) : v' = v ∧ hp' = hp ∧ c' = c := by
  simp only [ok, Option.some.injEq, Prod.mk.injEq] at h
  exact ⟨h.1.symm, h.2.1.symm, h.2.2.symm⟩

-- ------------------------------------------------------------------ plain values

theorem VR.int_inv {k : IntKind} {n : Int} {v : Value} (h : VR g w (.int k n) v) : v = .int k n := by cases h; rfl
theorem VR.bool_inv {b : Bool} {v : Value} (h : VR g w (.bool b) v) : v = .bool b := by cases h; rfl
theorem VR.str_inv {s : List UInt8} {v : Value} (h : VR g w (.str s) v) : ∃ s' : ByteArray, v = .string s' ∧ s'.data.toList = s := by
  cases h with | str _ s' e => exact ⟨s', rfl, e⟩

theorem ba_toList (s : ByteArray) : s.toList = s.data.toList := ByteArray.toList_eq _

theorem strEq_iff : ∀ (a b : List UInt8), strEq a b = (a == b)
  | [], [] => rfl
  | [], b :: y => rfl
  | a :: x, [] => rfl
  | a :: x, b :: y => by
    simp only [strEq]
    have ih := strEq_iff x y
    by_cases e : a = b
    · subst e; simp [ih, Nat.beq_refl]
    · have : Nat.beq a.toNat b.toNat = false := by
        cases hb : Nat.beq a.toNat b.toNat with
        | false => rfl
        | true => exact absurd (UInt8.toNat_inj.1 (Nat.eq_of_beq_eq_true hb)) e
      rw [this]; simp [e]

theorem strLt_iff : ∀ (a b : List UInt8), strLt a b = Op.bytesLess a b
  | _, [] => by simp [strLt, Op.bytesLess]
  | [], b :: y => by simp [strLt, Op.bytesLess]
  | a :: x, b :: y => by
    simp only [strLt, Op.bytesLess]
    have ih := strLt_iff x y
    by_cases e : a = b
    · subst e; simp [ih, Nat.beq_refl, UInt8.lt_irrefl]
    · have : Nat.beq a.toNat b.toNat = false := by
        cases hb : Nat.beq a.toNat b.toNat with
        | false => rfl
        | true => exact absurd (UInt8.toNat_inj.1 (Nat.eq_of_beq_eq_true hb)) e
      rw [this]
      simp only [cond_false]
      have hne : (a == b) = false := by simp [e]
      rw [hne, Bool.false_and, Bool.or_false]
      rw [Bool.eq_iff_iff]
      simp [Nat.blt_eq, UInt8.lt_iff_toNat_lt]

theorem intEq_iff (a b : Int) : intEq a b = (a == b) := by
  cases a <;> cases b <;> simp only [intEq]
  · rename_i a b
    rw [Bool.eq_iff_iff]; simp; exact ⟨fun h => by omega, fun h => by omega⟩
  · rename_i a b; symm; rw [beq_eq_false_iff_ne]; intro h; cases h
  · rename_i a b; symm; rw [beq_eq_false_iff_ne]; intro h; cases h
  · rename_i a b
    rw [Bool.eq_iff_iff]; simp

theorem intLt_iff (a b : Int) : intLt a b = decide (a < b) := by
  rw [Bool.eq_iff_iff, decide_eq_true_iff]
  cases a <;> cases b <;> simp only [intLt]
  · rename_i a b; rw [Nat.blt_eq]; exact ⟨fun h => by simpa using h, fun h => by simpa using h⟩
  · rename_i a b; exact ⟨fun h => by simp at h, fun h => by rw [show Int.ofNat a = (a : Int) from rfl] at h; exact absurd h (by omega)⟩
  · rename_i a b; exact ⟨fun _ => by rw [show Int.ofNat b = (b : Int) from rfl]; omega, fun _ => by trivial⟩
  · rename_i a b; rw [Nat.blt_eq]; exact ⟨fun h => by omega, fun h => by omega⟩
end
end Det
namespace Det
open Go

section
variable {P : Program} {T : PT TypeInfo} {E : List Nat} {GC : GT} {B0 : Nat} {g : Gh} {hp hp' : PT HO} {c c' : Nat} {w : World} {tm : PT AV} {a : Act}
variable {o : Oper} {d : DOp} {l : List Opd} {vs : List AV} {v : AV} {fz : Bool}

/-- the operation hands back a value, and turns nothing -/
def Val (P : Program) (g : Gh) (w : World) (a : Act) (o : Oper) (hp hp' : PT HO) (c c' : Nat) (v : AV) : Prop :=
  hp' = hp ∧ c' = c ∧ Vals P g w a o v

theorem sim_move {x : Operand} (ho : execOp a.eval o = pure (.value (a.eval x))) (hc : c1 GC .move x = some (d, l)) (hv : opvs tm l = some vs)
    (hW : WR GC B0 g hp c w) (hT : TM g w tm a) (hr : opRun d vs hp c = some (v, hp', c')) : Val P g w a o hp hp' c c' v := by
  obtain ⟨rfl, u, rfl, hu⟩ := c1_inv hc hv hW hT
  obtain ⟨rfl, rfl, rfl⟩ := ok_inv hr
  exact ⟨rfl, rfl, a.eval x, by rw [ho]; rfl, hu⟩

theorem sim_pick {x y z : Operand} (ho : o.op = .pick x y z) (hc : c3 GC .pick x y z = some (d, l)) (hv : opvs tm l = some vs)
    (hW : WR GC B0 g hp c w) (hT : TM g w tm a) (hr : opRun d vs hp c = some (v, hp', c')) : Val P g w a o hp hp' c c' v := by
  obtain ⟨rfl, u, s, t, rfl, hu, hs, ht⟩ := c3_inv hc hv hW hT
  cases u with
  | bool b =>
    have e := hu.bool_inv
    cases b with
    | true =>
      obtain ⟨rfl, rfl, rfl⟩ := ok_inv (show ok s hp c = _ from hr)
      exact ⟨rfl, rfl, a.eval y, by simp [execOp, ho, e, asBool], hs⟩
    | false =>
      obtain ⟨rfl, rfl, rfl⟩ := ok_inv (show ok t hp c = _ from hr)
      exact ⟨rfl, rfl, a.eval z, by simp [execOp, ho, e, asBool], ht⟩
  | _ => cases hr

theorem sim_nilCheck {x : Operand} (ho : o.op = .nilCheck x) (hc : c1 GC .nilCheck x = some (d, l)) (hv : opvs tm l = some vs)
    (hW : WR GC B0 g hp c w) (hT : TM g w tm a) (hr : opRun d vs hp c = some (v, hp', c')) : Val P g w a o hp hp' c c' v := by
  obtain ⟨rfl, u, rfl, hu⟩ := c1_inv hc hv hW hT
  have hr' : (bif isNil u then none else ok u hp c) = some (v, hp', c') := hr
  cases hn : isNil u with
  | true => rw [hn] at hr'; cases hr'
  | false =>
    rw [hn] at hr'
    obtain ⟨rfl, rfl, rfl⟩ := ok_inv hr'
    refine ⟨rfl, rfl, a.eval x, ?_, hu⟩
    generalize hx : a.eval x = cv at hu
    cases hu <;> first
      | (simp [isNil] at hn; done)
      | (simp [execOp, ho, hx]; done)

theorem sim_iface {x : Operand} {t : TypeId} (hL : Link P T E) (ho : o.op = .makeInterface t x) (hc : compOp GC T E fz (.makeInterface t x) = some (d, l)) (hv : opvs tm l = some vs)
    (hW : WR GC B0 g hp c w) (hT : TM g w tm a) (hr : opRun d vs hp c = some (v, hp', c')) : Val P g w a o hp hp' c c' v := by
  simp only [compOp] at hc
  have key : ∀ e, under T t = e → e ≠ .invalid → (∀ ms, e ≠ .interface ms) → c1 GC (.mkIface t) x = some (d, l) → Val P g w a o hp hp' c c' v := by
    intro e he hn hi hc
    obtain ⟨rfl, u, rfl, hu⟩ := c1_inv hc hv hW hT
    obtain ⟨rfl, rfl, rfl⟩ := ok_inv hr
    refine ⟨rfl, rfl, .iface t (a.eval x), ?_, .iface t _ _ hu⟩
    have hun := hL.under he hn
    cases e <;> first
      | exact absurd rfl (hi _)
      | (simp [execOp, ho, Instr.makeInterface, run_underlying hun]; done)
  cases he : under T t with
  | interface ms => rw [he] at hc; cases hc
  | invalid => rw [he] at hc; cases hc
  | _ => rw [he] at hc; exact key _ he (by simp) (by simp) hc

theorem sim_fn {f : FuncId} {x y : Array Operand} (ho : o.op = .makeFunc (.func f) x y) (hc : cs GC (.mkFn f x.size) (x.toList ++ y.toList) = some (d, l)) (hv : opvs tm l = some vs)
    (hW : WR GC B0 g hp c w) (hT : TM g w tm a) (hr : opRun d vs hp c = some (v, hp', c')) : Val P g w a o hp hp' c c' v := by
  obtain ⟨rfl, hu⟩ := cs_inv hc hv hW hT
  obtain ⟨rfl, rfl, rfl⟩ := ok_inv (show ok (.fn f (vs.take x.size) (vs.drop x.size)) hp c = _ from hr)
  refine ⟨rfl, rfl, .func (.func f) (x.map a.eval) (y.map a.eval), by simp [execOp, ho, Instr.makeFunc], ?_⟩
  rw [List.map_append] at hu
  obtain ⟨h1, h2⟩ := hu.get
  have hl : vs.length = x.size + y.size := by simpa using h1
  refine .fn f _ _ _ _ (by simp; omega) (by simp; omega) (fun k z e => ?_) (fun k z e => ?_)
  · have hk : k < x.size := by
      have := (List.getElem?_eq_some_iff.1 e).1
      simp at this; omega
    have := h2 k z (by rw [List.getElem?_take] at e; simpa [hk] using e)
    rw [List.getElem?_append_left (by simpa using hk)] at this
    obtain ⟨u, hu1, hu2⟩ := this
    have e2 : (x.map a.eval).getD k undef = u := by
      rw [Array.getD_eq_getD_getElem?]
      have : (x.map a.eval)[k]? = (x.toList.map a.eval)[k]? := by simp
      rw [this, hu1]; rfl
    rw [e2]; exact hu2
  · have hk := (List.getElem?_eq_some_iff.1 e).1
    have := h2 (x.size + k) z (by rw [List.getElem?_drop] at e; exact e)
    rw [List.getElem?_append_right (by simp)] at this
    obtain ⟨u, hu1, hu2⟩ := this
    have e2 : (y.map a.eval).getD k undef = u := by
      rw [Array.getD_eq_getD_getElem?]
      have : (y.map a.eval)[k]? = (y.toList.map a.eval)[k]? := by simp
      rw [this]
      simp only [List.length_map, Array.length_toList, Nat.add_sub_cancel_left] at hu1
      rw [hu1]; rfl
    rw [e2]; exact hu2

/-- the value that an operation on ints has -/
def valOf : AV → Value
  | .int k n => .int k n
  | .bool b => .bool b
  | .str s => .string ⟨s.toArray⟩
  | _ => undef
def flat1 : AV → Bool
  | .int _ _ => true
  | .bool _ => true
  | .str _ => true
  | _ => false
theorem VR.flat (g : Gh) (w : World) {v : AV} (h : flat1 v = true) : VR g w v (valOf v) := by
  cases v <;> first
    | (simp [flat1] at h; done)
    | exact .int _ _
    | exact .bool _
    | exact .str _ _ (by simp)
theorem VR.unique {v : AV} (h : flat1 v = true) {u : Value} (r : VR g w v u) : u = valOf v := by
  cases r <;> first
    | (simp [flat1] at h; done)
    | rfl
    | skip
  rename_i s s' e
  subst e
  simp [valOf]
theorem binI_flat {op : BinOp} {k : IntKind} {m n : Int} {v : AV} (h : binI op k m n = some v) : flat1 v = true := by
  cases op <;> simp only [binI] at h <;> first
    | (simp only [Option.some.injEq] at h; subst h; rfl)
    | (split at h <;> first | (simp only [Option.some.injEq] at h; subst h; rfl) | cases h)
    | (cases hz : intEq n 0 <;> rw [hz] at h <;> simp only [cond_true, cond_false, Option.some.injEq] at h <;> first | (subst h; rfl) | cases h)
    | (cases hz : intLt n 0 <;> rw [hz] at h <;> simp only [cond_true, cond_false, Option.some.injEq] at h <;> first | (subst h; rfl) | cases h)

theorem run_binI {op : BinOp} {k j : IntKind} {m n : Int} {v : AV} (t : TypeId) (x y : Operand) (hk : (isShift op || k == j) = true) (h : binI op k m n = some v) (w : World) :
    (do eqGuard op t x y (.int k m) (.int j n); Go.binOp op t (.int k m) (.int j n) : Sem Value).run P w = .ok (valOf v) w := by
  have hsh : isShift op = false → k = j := fun h => by rw [h] at hk; simpa using hk
  cases op <;> simp only [isShift] at hsh <;> (try (have hkj := hsh trivial; subst hkj)) <;> simp only [binI] at h
  all_goals first
    | (simp only [Option.some.injEq] at h; subst h; simp [eqGuard, Go.binOp, Op.intArith, Op.intBits, Op.intCmp, valOf, intEq_iff, intLt_iff]; done)
    | (cases hz : intEq n 0 with
       | true => rw [hz] at h; cases h
       | false =>
         rw [hz] at h; simp only [cond_false, Option.some.injEq] at h; subst h
         rw [intEq_iff] at hz
         have hne : n ≠ 0 := by simpa using hz
         simp [eqGuard, Go.binOp, Op.intDiv, valOf, hne]; done)
    | (cases hz : intLt n 0 with
       | true => rw [hz] at h; cases h
       | false =>
         rw [hz] at h; simp only [cond_false, Option.some.injEq] at h; subst h
         rw [intLt_iff] at hz
         have hne : ¬ n < 0 := by simpa using hz
         simp [eqGuard, Go.binOp, Op.shift, valOf, hne]; done)
    | skip
  · simp only [Option.some.injEq] at h; subst h
    simp [eqGuard, Go.binOp, Op.intCmp, valOf, intEq_iff, bne]
  · simp only [Option.some.injEq] at h; subst h
    have e : (!decide (n < m)) = decide (m ≤ n) := by rw [← decide_not]; exact decide_eq_decide.2 Int.not_lt
    simp [eqGuard, Go.binOp, Op.intCmp, valOf, intLt_iff, e]
  · simp only [Option.some.injEq] at h; subst h
    have e : (!decide (m < n)) = decide (n ≤ m) := by rw [← decide_not]; exact decide_eq_decide.2 Int.not_lt
    simp [eqGuard, Go.binOp, Op.intCmp, valOf, intLt_iff, e]

theorem bytesLess_total : ∀ (a b : List UInt8), (!Op.bytesLess b a) = (Op.bytesLess a b || a == b)
  | [], [] => by simp [Op.bytesLess]
  | [], b :: y => by simp [Op.bytesLess]
  | a :: x, [] => by simp [Op.bytesLess]
  | a :: x, b :: y => by
    have ih := bytesLess_total x y
    simp only [Op.bytesLess]
    by_cases e : a = b
    · subst e; simp [UInt8.lt_irrefl, ih]
    · have e' : ¬ b = a := fun h => e h.symm
      have h1 : (a == b) = false := by simp [e]
      have h2 : (b == a) = false := by simp [e']
      have h3 : (a :: x == b :: y) = false := by simp [e]
      rw [h1, h2, h3]
      simp only [Bool.false_and, Bool.or_false]
      rw [← decide_not]
      refine decide_eq_decide.2 ?_
      rw [UInt8.lt_iff_toNat_lt, UInt8.lt_iff_toNat_lt]
      have : a.toNat ≠ b.toNat := fun h => e (UInt8.toNat_inj.1 h)
      omega

theorem binS_flat {op : BinOp} {m n : List UInt8} {v : AV} (h : binS op m n = some v) : flat1 v = true := by
  cases op <;> simp only [binS, Option.some.injEq, reduceCtorEq] at h <;> first
    | (subst h; rfl)
    | (cases hz : Nat.ble (m.length + n.length) 1000000000 <;> rw [hz] at h <;> simp only [cond_true, cond_false, Option.some.injEq, reduceCtorEq] at h; subst h; rfl)

theorem ba_size (m : ByteArray) : m.size = m.data.toList.length := Array.length_toList.symm
theorem run_stringOp {op : BinOp} (m n : ByteArray) (t : TypeId) (x y : Operand) (w : World) :
    (do eqGuard op t x y (.string m) (.string n); Go.binOp op t (.string m) (.string n) : Sem Value).run P w = (Op.stringOp op m n).run P w := by
  cases op <;> rfl

theorem run_binS {op : BinOp} {m n : ByteArray} {v : AV} (t : TypeId) (x y : Operand) (h : binS op m.data.toList n.data.toList = some v) (w : World) :
    (do eqGuard op t x y (.string m) (.string n); Go.binOp op t (.string m) (.string n) : Sem Value).run P w = .ok (valOf v) w := by
  rw [run_stringOp]
  have e0 := bytesLess_total m.data.toList n.data.toList
  have e1 := bytesLess_total n.data.toList m.data.toList
  cases op
  case add =>
    simp only [binS] at h
    cases hz : Nat.ble (m.data.toList.length + n.data.toList.length) 1000000000 with
    | false => rw [hz] at h; cases h
    | true =>
      rw [hz] at h; simp only [cond_true, Option.some.injEq] at h; subst h
      have hle := Nat.le_of_ble_eq_true hz
      have hsz : ¬ ((m.size + n.size : Nat) : Int) > IntKind.i64.max := by
        have e1 := ba_size m
        have e2 := ba_size n
        have : IntKind.i64.max = 9223372036854775807 := by decide
        rw [this]; omega
      have e3 : (⟨(m.data.toList ++ n.data.toList).toArray⟩ : ByteArray) = m ++ n := by
        apply ByteArray.ext; simp
      rw [show valOf (.str (m.data.toList ++ n.data.toList)) = .string (m ++ n) from by simp only [valOf, e3]]
      simp only [Op.stringOp]
      rw [if_neg hsz]
      rfl
  case eql =>
    simp only [binS, Option.some.injEq] at h; subst h
    simp only [Op.stringOp, valOf, strEq_iff, ba_toList]; rfl
  case neq =>
    simp only [binS, Option.some.injEq] at h; subst h
    simp only [Op.stringOp, valOf, strEq_iff, ba_toList]; rfl
  case lss =>
    simp only [binS, Option.some.injEq] at h; subst h
    simp only [Op.stringOp, valOf, strLt_iff, ba_toList]; rfl
  case leq =>
    simp only [binS, Option.some.injEq] at h; subst h
    simp only [Op.stringOp, valOf, strLt_iff, ba_toList]; rw [e0]; rfl
  case gtr =>
    simp only [binS, Option.some.injEq] at h; subst h
    simp only [Op.stringOp, valOf, strLt_iff, ba_toList]; rw [← e0, Bool.not_not]; rfl
  case geq =>
    simp only [binS, Option.some.injEq] at h; subst h
    simp only [Op.stringOp, valOf, strLt_iff, ba_toList]; rfl
  all_goals cases h

theorem sim_bin {op : BinOp} {t ty : TypeId} {x y : Operand} (ho : o.op = .binOp op t x y ty) (hc : c2 GC (.bin op) x y = some (d, l)) (hv : opvs tm l = some vs)
    (hW : WR GC B0 g hp c w) (hT : TM g w tm a) (hr : opRun d vs hp c = some (v, hp', c')) : Val P g w a o hp hp' c c' v := by
  obtain ⟨rfl, u, s, rfl, hu, hs⟩ := c2_inv hc hv hW hT
  have hr' : (match bin op u s with | some v => ok v hp c | none => none) = some (v, hp', c') := hr
  cases hb : bin op u s with
  | none => rw [hb] at hr'; cases hr'
  | some z =>
    rw [hb] at hr'
    obtain ⟨rfl, rfl, rfl⟩ := ok_inv hr'
    refine ⟨rfl, rfl, ?_⟩
    cases u with
    | int k m =>
      cases s with
      | int j n =>
        have e1 := hu.int_inv
        have e2 := hs.int_inv
        have hb' : (bif isShift op || k == j then binI op k m n else none) = some v := hb
        cases hk : isShift op || k == j with
        | false => rw [hk] at hb'; cases hb'
        | true =>
          rw [hk] at hb'
          simp only [cond_true] at hb'
          refine ⟨valOf v, ?_, VR.flat g w (binI_flat hb')⟩
          have := run_binI (P := P) t x y hk hb' w
          simp only [execOp, ho, e1, e2, Sem.run_bind, this, Result.andThen_ok]
          rfl
      | _ => cases hb
    | str m =>
      cases s with
      | str n =>
        obtain ⟨m', e1, rfl⟩ := hu.str_inv
        obtain ⟨n', e2, rfl⟩ := hs.str_inv
        have hb' : binS op m'.data.toList n'.data.toList = some v := hb
        refine ⟨valOf v, ?_, VR.flat g w (binS_flat hb')⟩
        have := run_binS (P := P) t x y hb' w
        simp only [execOp, ho, e1, e2, Sem.run_bind, this, Result.andThen_ok]
        rfl
      | _ => cases hb
    | _ => cases hb
end
end Det
namespace Det
open Go

section
variable {P : Program} {T : PT TypeInfo} {E : List Nat} {GC : GT} {B0 : Nat} {g : Gh} {hp hp' : PT HO} {c c' : Nat} {w : World} {tm : PT AV} {a : Act}
variable {o : Oper} {d : DOp} {l : List Opd} {vs : List AV} {v : AV} {fz : Bool}

theorem sim_un {op : UnOp} {t : TypeId} {x : Operand} (ho : o.op = .unOp op t x) (hc : c1 GC (.un op) x = some (d, l)) (hv : opvs tm l = some vs)
    (hW : WR GC B0 g hp c w) (hT : TM g w tm a) (hr : opRun d vs hp c = some (v, hp', c')) : Val P g w a o hp hp' c c' v := by
  obtain ⟨rfl, u, rfl, hu⟩ := c1_inv hc hv hW hT
  cases u with
  | int k n =>
    have e := hu.int_inv
    cases op with
    | neg =>
      obtain ⟨rfl, rfl, rfl⟩ := ok_inv (show ok (.int k (k.wrap (0 - n))) hp c = _ from hr)
      exact ⟨rfl, rfl, .int k (k.wrap (0 - n)), by simp [execOp, ho, e, Op.unary, Op.intArith], .int _ _⟩
    | xor =>
      obtain ⟨rfl, rfl, rfl⟩ := ok_inv (show ok (.int k (k.wrap (BitVec.ofInt k.bits (bif k.signed then -1 else k.max) ^^^ BitVec.ofInt k.bits n).toNat)) hp c = _ from hr)
      refine ⟨rfl, rfl, _, ?_, .int _ _⟩
      simp only [execOp, ho, e, Op.unary, Op.intBits]
      cases k.signed <;> rfl
    | _ => cases hr
  | bool b =>
    have e := hu.bool_inv
    cases op with
    | not =>
      obtain ⟨rfl, rfl, rfl⟩ := ok_inv (show ok (.bool !b) hp c = _ from hr)
      exact ⟨rfl, rfl, .bool !b, by simp [execOp, ho, e, Op.unary], .bool _⟩
    | _ => cases hr
  | _ => cases hr

/-- conversions -/
theorem sim_conv {s t : TypeId} {x : Operand} (hL : Link P T E) (ho : o.op = .convert s t x) (hc : compConv GC T s t x = some (d, l)) (hv : opvs tm l = some vs)
    (hW : WR GC B0 g hp c w) (hT : TM g w tm a) (hd : d ≠ .strBytes) (hb : d ≠ .bytesStr) (hru : d ≠ .runesStr)
    (hr : opRun d vs hp c = some (v, hp', c')) : Val P g w a o hp hp' c c' v := by
  unfold compConv at hc
  split at hc
  · rename_i k0 k h1 h2
    obtain ⟨rfl, u, rfl, hu⟩ := c1_inv hc hv hW hT
    have u1 := hL.under h1 (by simp)
    have u2 := hL.under h2 (by simp)
    cases u with
    | int j n =>
      have e := hu.int_inv
      obtain ⟨rfl, rfl, rfl⟩ := ok_inv (show ok (.int k (k.wrap n)) hp c = _ from hr)
      exact ⟨rfl, rfl, .int k (k.wrap n), by simp [execOp, ho, e, convert, run_underlying u1, run_underlying u2, Conv.intToInt], .int _ _⟩
    | _ => cases hr
  · rename_i k0 h1 h2
    obtain ⟨rfl, u, rfl, hu⟩ := c1_inv hc hv hW hT
    have u1 := hL.under h1 (by simp)
    have u2 := hL.under h2 (by simp)
    cases u with
    | int j n =>
      have e := hu.int_inv
      obtain ⟨rfl, rfl, rfl⟩ := ok_inv (show ok (.str (Utf8.encode n).data.toList) hp c = _ from hr)
      exact ⟨rfl, rfl, .string (Utf8.encode n), by simp [execOp, ho, e, convert, run_underlying u1, run_underlying u2, Conv.intToString], .str _ _ rfl⟩
    | _ => cases hr
  · rename_i h1 h2
    obtain ⟨rfl, u, rfl, hu⟩ := c1_inv hc hv hW hT
    have u1 := hL.under h1 (by simp)
    have u2 := hL.under h2 (by simp)
    cases u with
    | str s =>
      obtain ⟨s', e, rfl⟩ := hu.str_inv
      obtain ⟨rfl, rfl, rfl⟩ := ok_inv (show ok (.str s'.data.toList) hp c = _ from hr)
      exact ⟨rfl, rfl, .string s', by simp [execOp, ho, e, convert, run_underlying u1, run_underlying u2], .str _ _ rfl⟩
    | _ => cases hr
  · split at hc
    · obtain ⟨rfl, _⟩ := c1_inv hc hv hW hT; exact absurd rfl hd
    · cases hc
  · split at hc
    · obtain ⟨rfl, _⟩ := c1_inv hc hv hW hT; exact absurd rfl hb
    · obtain ⟨rfl, _⟩ := c1_inv hc hv hW hT; exact absurd rfl hru
    · cases hc
  · cases hc

theorem natIn_inv {v : AV} {b n : Nat} (h : natIn v b = some n) : ∃ k, v = .int k (n : Int) ∧ n ≤ b := by
  unfold natIn at h
  split at h
  · rename_i k m
    cases hb : Nat.ble m b with
    | false => rw [hb] at h; cases h
    | true =>
      rw [hb] at h; simp only [cond_true, Option.some.injEq] at h; subst h
      exact ⟨k, rfl, Nat.le_of_ble_eq_true hb⟩
  · cases h

theorem sliceBound_run {k : IntKind} {n y : Nat} (code : BoundsCode) (h : n ≤ y) (w : World) :
    (Instr.sliceBound (.int k n) y code).run P w = .ok n w := by
  have : (0 : Int) ≤ n ∧ (n : Int) ≤ y := ⟨by omega, by omega⟩
  simp [Instr.sliceBound, asIntOf, this]

/-- the values of bounds, and the bounds -/
def Bnd (has : Bool) (x : Option Value) (dflt b n : Nat) : Prop :=
  match has with
  | false => x = none ∧ n = dflt
  | true => ∃ k, x = some (.int k (n : Int)) ∧ n ≤ b

theorem slBounds_inv {lo hi mx : Bool} {len cap : Nat} {r : List AV} {lv hv mv : Nat} (h : slBounds lo hi mx len cap r = some (lv, hv, mv))
    {x y z : Option Operand} (hx : x.isSome = lo) (hy : y.isSome = hi) (hz : z.isSome = mx)
    (hr : VRs g w r ((x.toList ++ y.toList ++ z.toList).map a.eval)) :
    Bnd mx (z.map a.eval) cap cap mv ∧ Bnd hi (y.map a.eval) len mv hv ∧ Bnd lo (x.map a.eval) 0 hv lv ∧ (mx = true → hi = true) ∧ lv ≤ hv ∧ (hi = true → hv ≤ mv) ∧ mv ≤ cap := by
  subst hx; subst hy; subst hz
  have inv : ∀ {v : AV} {b n : Nat} {u : Operand}, natIn v b = some n → VR g w v (a.eval u) → ∃ k, some (a.eval u) = some (Value.int k (n : Int)) ∧ n ≤ b := by
    intro v b n u h1 h2
    obtain ⟨k, rfl, h3⟩ := natIn_inv h1
    exact ⟨k, by rw [h2.int_inv], h3⟩
  cases x with
  | none =>
    cases y with
    | none =>
      cases z with
      | none =>
        cases r with
        | nil =>
          simp only [slBounds, Option.isSome, Option.some.injEq, Prod.mk.injEq] at h
          obtain ⟨rfl, rfl, rfl⟩ := h
          exact ⟨⟨rfl, rfl⟩, ⟨rfl, rfl⟩, ⟨rfl, rfl⟩, fun h => h, Nat.zero_le _, (fun h => by cases h), Nat.le_refl _⟩
        | cons _ _ => simp [slBounds, Option.isSome] at h
      | some z => cases r <;> simp [slBounds, Option.isSome] at h
    | some y =>
      cases z with
      | none =>
        rcases r with _ | ⟨v1, _ | ⟨v2, r⟩⟩ <;> simp only [slBounds, Option.isSome, reduceCtorEq] at h
        cases h1 : natIn v1 cap with
        | none => rw [h1] at h; cases h
        | some n1 =>
          rw [h1] at h; simp only [Option.some.injEq, Prod.mk.injEq] at h
          obtain ⟨rfl, rfl, rfl⟩ := h
          obtain ⟨k, e1, e2⟩ := inv h1 hr.1
          exact ⟨⟨rfl, rfl⟩, ⟨k, e1, e2⟩, ⟨rfl, rfl⟩, fun _ => rfl, Nat.zero_le _, fun _ => e2, Nat.le_refl _⟩
      | some z =>
        rcases r with _ | ⟨v1, _ | ⟨v2, _ | ⟨v3, r⟩⟩⟩ <;> simp only [slBounds, Option.isSome, reduceCtorEq] at h
        cases h2 : natIn v2 cap with
        | none => rw [h2] at h; cases h
        | some n2 =>
          rw [h2] at h; simp only at h
          cases h1 : natIn v1 n2 with
          | none => rw [h1] at h; cases h
          | some n1 =>
            rw [h1] at h; simp only [Option.some.injEq, Prod.mk.injEq] at h
            obtain ⟨rfl, rfl, rfl⟩ := h
            obtain ⟨k, e1, e2⟩ := inv h1 hr.1
            obtain ⟨k2, e3, e4⟩ := inv h2 hr.2.1
            exact ⟨⟨k2, e3, e4⟩, ⟨k, e1, e2⟩, ⟨rfl, rfl⟩, fun _ => rfl, Nat.zero_le _, fun _ => e2, e4⟩
  | some x =>
    cases y with
    | none =>
      cases z with
      | none =>
        rcases r with _ | ⟨v1, _ | ⟨v2, r⟩⟩ <;> simp only [slBounds, Option.isSome, reduceCtorEq] at h
        cases h1 : natIn v1 len with
        | none => rw [h1] at h; cases h
        | some n1 =>
          rw [h1] at h; simp only [Option.some.injEq, Prod.mk.injEq] at h
          obtain ⟨rfl, rfl, rfl⟩ := h
          obtain ⟨k, e1, e2⟩ := inv h1 hr.1
          exact ⟨⟨rfl, rfl⟩, ⟨rfl, rfl⟩, ⟨k, e1, e2⟩, (fun h => by cases h), e2, (fun h => by cases h), Nat.le_refl _⟩
      | some z => rcases r with _ | ⟨v1, _ | ⟨v2, r⟩⟩ <;> simp [slBounds, Option.isSome] at h
    | some y =>
      cases z with
      | none =>
        rcases r with _ | ⟨v1, _ | ⟨v2, _ | ⟨v3, r⟩⟩⟩ <;> simp only [slBounds, Option.isSome, reduceCtorEq] at h
        cases h2 : natIn v2 cap with
        | none => rw [h2] at h; cases h
        | some n2 =>
          rw [h2] at h; simp only at h
          cases h1 : natIn v1 n2 with
          | none => rw [h1] at h; cases h
          | some n1 =>
            rw [h1] at h; simp only [Option.some.injEq, Prod.mk.injEq] at h
            obtain ⟨rfl, rfl, rfl⟩ := h
            obtain ⟨k, e1, e2⟩ := inv h1 hr.1
            obtain ⟨k2, e3, e4⟩ := inv h2 hr.2.1
            exact ⟨⟨rfl, rfl⟩, ⟨k2, e3, e4⟩, ⟨k, e1, e2⟩, (fun h => by cases h), e2, fun _ => e4, Nat.le_refl _⟩
      | some z =>
        rcases r with _ | ⟨v1, _ | ⟨v2, _ | ⟨v3, _ | ⟨v4, r⟩⟩⟩⟩ <;> simp only [slBounds, Option.isSome, reduceCtorEq] at h
        cases h3 : natIn v3 cap with
        | none => rw [h3] at h; cases h
        | some n3 =>
          rw [h3] at h; simp only at h
          cases h2 : natIn v2 n3 with
          | none => rw [h2] at h; cases h
          | some n2 =>
            rw [h2] at h; simp only at h
            cases h1 : natIn v1 n2 with
            | none => rw [h1] at h; cases h
            | some n1 =>
              rw [h1] at h; simp only [Option.some.injEq, Prod.mk.injEq] at h
              obtain ⟨rfl, rfl, rfl⟩ := h
              obtain ⟨k, e1, e2⟩ := inv h1 hr.1
              obtain ⟨k2, e3, e4⟩ := inv h2 hr.2.1
              obtain ⟨k3, e5, e6⟩ := inv h3 hr.2.2.1
              exact ⟨⟨k3, e5, e6⟩, ⟨k2, e3, e4⟩, ⟨k, e1, e2⟩, fun _ => rfl, e2, fun _ => e4, e6⟩
end
end Det
namespace Det
open Go

theorem shp_cells {x : AV} {k : Option Nat} (h : shp x = k) : x.cells.length = ksz k := by
  subst h; cases x <;> rfl

theorem kEq_iff {a b : Option Nat} : kEq a b = true ↔ a = b := by
  cases a <;> cases b <;> simp [kEq]

theorem uni_shp {k : Option Nat} {xs : List AV} (h : uni k xs = true) {kk : Option Nat} (hk : ∀ x, x ∈ xs → shp x = kk) : ∀ x, x ∈ xs → shp x = k := by
  cases xs with
  | nil => intro x hx; cases hx
  | cons y ys =>
    have h1 : shp y = k := kEq_iff.1 h
    have h2 := hk y (List.mem_cons_self ..)
    intro x hx
    rw [hk x hx, ← h2, h1]

theorem flat_len : ∀ (xs : List AV) {k : Option Nat}, (∀ x, x ∈ xs → shp x = k) → (flat xs).length = xs.length * ksz k
  | [], k, _ => by simp [flat]
  | x :: xs, k, h => by
    have h1 := shp_cells (h x (List.mem_cons_self ..))
    have h2 := flat_len xs (fun y hy => h y (List.mem_cons_of_mem _ hy))
    simp only [flat, List.length_append, h1, h2, List.length_cons, Nat.succ_mul, Nat.add_comm]

theorem flat_append : ∀ (xs ys : List AV), flat (xs ++ ys) = flat xs ++ flat ys
  | [], ys => rfl
  | x :: xs, ys => by simp [flat, flat_append xs ys]

theorem flat_split (xs : List AV) (n : Nat) : flat xs = flat (xs.take n) ++ flat (xs.drop n) := by
  rw [← flat_append, List.take_append_drop]

theorem flat_take_len (xs : List AV) {k : Option Nat} (h : ∀ x, x ∈ xs → shp x = k) (n : Nat) (hn : n ≤ xs.length) :
    (flat (xs.take n)).length = n * ksz k := by
  have h1 := flat_len (xs.take n) (fun x hx => h x (List.mem_of_mem_take hx))
  rw [List.length_take, Nat.min_eq_left hn] at h1
  exact h1

theorem flat_drop (xs : List AV) {k : Option Nat} (h : ∀ x, x ∈ xs → shp x = k) (n : Nat) (hn : n ≤ xs.length) :
    flat (xs.drop n) = (flat xs).drop (n * ksz k) := by
  rw [flat_split xs n, List.drop_left' (flat_take_len xs h n hn)]

theorem flat_take (xs : List AV) {k : Option Nat} (h : ∀ x, x ∈ xs → shp x = k) (n : Nat) (hn : n ≤ xs.length) :
    flat (xs.take n) = (flat xs).take (n * ksz k) := by
  have e := List.take_left' (l₂ := flat (xs.drop n)) (flat_take_len xs h n hn)
  rw [← flat_split] at e
  exact e.symm

/-- the cells of element i -/
theorem flat_at (xs : List AV) {k : Option Nat} (h : ∀ x, x ∈ xs → shp x = k) {i : Nat} {x : AV} (hi : xs[i]? = some x) (j : Nat) (hj : j < ksz k) :
    (flat xs)[i * ksz k + j]? = x.cells[j]? := by
  obtain ⟨hlt, he⟩ := List.getElem?_eq_some_iff.1 hi
  have hd : xs.drop i = x :: xs.drop (i + 1) := by rw [List.drop_eq_getElem_cons hlt, he]
  have := flat_drop xs h i (by omega)
  rw [hd] at this
  simp only [flat] at this
  have h1 := shp_cells (h x (List.mem_of_getElem? hi))
  have e : ((flat xs).drop (i * ksz k))[j]? = (flat xs)[i * ksz k + j]? := by rw [List.getElem?_drop]
  rw [← e, ← this, List.getElem?_append_left (by omega)]

section
variable {P : Program} {T : PT TypeInfo} {E : List Nat} {GC : GT} {B0 : Nat} {g : Gh} {hp hp' : PT HO} {c c' : Nat} {w : World} {tm : PT AV} {a : Act}
variable {o : Oper} {d : DOp} {l : List Opd} {vs : List AV} {v : AV} {fz : Bool}

theorem sliceBounds_run {isS lo hi mx : Bool} {xv yv zv : Option Value} {len cap cap' lv hv mv : Nat}
    (hm : Bnd mx zv cap cap mv) (hh : Bnd hi yv len mv hv) (hl : Bnd lo xv 0 hv lv) (himp : mx = true → hi = true) (hle : cap ≤ cap') (hlen : mv ≤ cap)
    (w : World) : (Instr.sliceBounds isS len cap' xv yv zv).run P w = .ok (lv, hv, if mx then mv else cap') w := by
  unfold Instr.sliceBounds
  cases mx with
  | true =>
    have := himp rfl; subst this
    obtain ⟨k1, rfl, h1⟩ := hm
    obtain ⟨k2, rfl, h2⟩ := hh
    cases lo with
    | true =>
      obtain ⟨k3, rfl, h3⟩ := hl
      simp [sliceBound_run _ (Nat.le_trans h1 hle), sliceBound_run _ h2, sliceBound_run _ h3]
    | false =>
      obtain ⟨rfl, rfl⟩ := hl
      simp [sliceBound_run _ (Nat.le_trans h1 hle), sliceBound_run _ h2]
  | false =>
    obtain ⟨rfl, rfl⟩ := hm
    cases hi with
    | true =>
      obtain ⟨k2, rfl, h2⟩ := hh
      have h2' : hv ≤ cap' := Nat.le_trans h2 hle
      cases lo with
      | true =>
        obtain ⟨k3, rfl, h3⟩ := hl
        simp [sliceBound_run _ h2', sliceBound_run _ h3]
      | false =>
        obtain ⟨rfl, rfl⟩ := hl
        simp [sliceBound_run _ h2']
    | false =>
      obtain ⟨rfl, rfl⟩ := hh
      cases lo with
      | true =>
        obtain ⟨k3, rfl, h3⟩ := hl
        simp [sliceBound_run _ h3]
      | false =>
        obtain ⟨rfl, rfl⟩ := hl
        simp

theorem opt_map_toList (x y z : Option Operand) : (x.toList ++ y.toList ++ z.toList).map a.eval = ((x.toList ++ y.toList) ++ z.toList).map a.eval := rfl

theorem sim_sliceStr {t : TypeId} {x : Operand} {lo hi : Option Operand} (hL : Link P T E) (hu : under T t = .string) (ho : o.op = .slice t x lo hi none)
    (hc : cs GC (.sliceStr lo.isSome hi.isSome) (x :: (lo.toList ++ hi.toList ++ (none : Option Operand).toList)) = some (d, l)) (hv : opvs tm l = some vs)
    (hW : WR GC B0 g hp c w) (hT : TM g w tm a) (hr : opRun d vs hp c = some (v, hp', c')) : Val P g w a o hp hp' c c' v := by
  obtain ⟨rfl, hvs⟩ := cs_inv hc hv hW hT
  have hun := hL.under hu (by simp)
  cases vs with
  | nil => cases hr
  | cons u r =>
    cases u with
    | str s =>
      obtain ⟨s', e, rfl⟩ := hvs.1.str_inv
      have hr' : (match slBounds lo.isSome hi.isSome false s'.data.toList.length s'.data.toList.length r with
        | some (l, h, _) => ok (.str ((s'.data.toList.take h).drop l)) hp c | none => none) = some (v, hp', c') := hr
      cases hb : slBounds lo.isSome hi.isSome false s'.data.toList.length s'.data.toList.length r with
      | none => rw [hb] at hr'; cases hr'
      | some q =>
        obtain ⟨lv, hv', mv⟩ := q
        rw [hb] at hr'
        obtain ⟨rfl, rfl, rfl⟩ := ok_inv hr'
        obtain ⟨b1, b2, b3, b4, b5, b6, b7⟩ := slBounds_inv hb (x := lo) (y := hi) (z := none) rfl rfl rfl hvs.2
        rw [← ba_size] at b1 b2 b7
        have hrun := sliceBounds_run (P := P) (isS := false) b1 b2 b3 b4 (Nat.le_refl _) b7 w
        refine ⟨rfl, rfl, .string (s'.extract lv hv'), ?_, .str _ _ ?_⟩
        · simp only [execOp, ho, Instr.sliceAt, Sem.run_bind, run_underlying hun, Result.andThen_ok, e, Instr.slice]
          simp only [Option.map_none, Option.isSome_none, Bool.false_eq_true, if_false, Sem.run_bind, Sem.run_pure, Result.andThen_ok]
          rw [show (Option.map a.eval none : Option Value) = none from rfl] at hrun
          simp [hrun]
        · simp only [ByteArray.data_extract, Array.toList_extract, List.extract_eq_take_drop]
          rw [List.drop_take]
    | _ => cases hr

theorem Addr.add_spot (b o n : Nat) : (⟨b, o, none⟩ : Addr).add n = ⟨b, o + n, none⟩ := by
  unfold Go.Addr.add
  split
  · subst n; rfl
  · rfl
end
end Det
namespace Det
open Go

section
variable {P : Program} {T : PT TypeInfo} {E : List Nat} {GC : GT} {B0 : Nat} {g : Gh} {hp hp' : PT HO} {c c' : Nat} {w : World} {tm : PT AV} {a : Act}
variable {o : Oper} {d : DOp} {l : List Opd} {vs : List AV} {v : AV} {fz : Bool}

-- ------------------------------------------------------------------ what a value is

theorem VR.ptr_inv {id off : Nat} {u : Value} (h : VR g w (.ptr id off) u) : ∃ L, g.loc id = some L ∧ u = .pointer (some ⟨L.b, L.o + off, none⟩) := by
  cases h with | ptr _ _ L e => exact ⟨L, e, rfl⟩
theorem VR.agg_inv {cs : List AV} {u : Value} (h : VR g w (.agg cs) u) :
    ∃ xs : Array Value, u = .agg xs ∧ cs.length = xs.size ∧ ∀ k x, cs[k]? = some x → VR g w x (xs.getD k undef) := by
  cases h with | agg _ xs h1 h2 => exact ⟨xs, rfl, h1, h2⟩
theorem VR.tup_inv {cs : List AV} {u : Value} (h : VR g w (.tup cs) u) :
    ∃ xs : Array Value, u = .tuple xs ∧ cs.length = xs.size ∧ ∀ k x, cs[k]? = some x → VR g w x (xs.getD k undef) := by
  cases h with | tup _ xs h1 h2 => exact ⟨xs, rfl, h1, h2⟩
theorem VR.iface_inv {t : TypeId} {x : AV} {u : Value} (h : VR g w (.iface t x) u) : ∃ y, u = .iface t y ∧ VR g w x y := by
  cases h with | iface _ _ y h => exact ⟨y, rfl, h⟩
theorem VR.arr_inv {id off len : Nat} {k : Option Nat} {u : Value} (h : VR g w (.arr id off len k) u) :
    ∃ L ad cap, g.loc id = some L ∧ 0 < ksz k ∧ u = .slice (some ad) len cap ∧
      ((len = 0 ∧ cap = 0 ∧ L.n ≤ off) ∨ (ad = ⟨L.b, L.o + off, none⟩ ∧ L.n ≤ off + cap * ksz k ∧ off + cap * ksz k ≤ L.N ∧ len ≤ cap)) := by
  cases h with
  | arr0 _ _ _ ad L e h1 h2 => exact ⟨L, ad, 0, e, h2, rfl, .inl ⟨rfl, rfl, h1⟩⟩
  | arr _ _ _ _ L cap e h0 h1 h2 h3 => exact ⟨L, _, cap, e, h0, rfl, .inr ⟨rfl, h1, h2, h3⟩⟩
theorem VR.sl_inv {xs : List AV} {ex : Bool} {u : Value} (h : VR g w (.sl xs ex) u) :
    ∃ ad cap, u = .slice (some ad) xs.length cap ∧ (ex = true → cap = xs.length) ∧ xs.length ≤ cap ∧ (∃ kk, ∀ x, x ∈ xs → shp x = kk) ∧
      (xs = [] ∨ ∃ b o, ∃ cv : Nat → Value, ad = ⟨b, o, none⟩ ∧ (∀ k x, (Det.flat xs)[k]? = some x → g.tag b (o + k) = .ro ∧ cellAt w b (o + k) = some (cv k)) ∧
        (∀ k x, (Det.flat xs)[k]? = some x → VR g w x (cv k))) := by
  cases h with
  | sl0 _ ad cap e => exact ⟨ad, cap, rfl, e, Nat.zero_le _, ⟨none, fun x h => by cases h⟩, .inl rfl⟩
  | sl _ _ b o n cap cv kk hn hk h1 h2 hc h =>
    subst hn
    exact ⟨_, cap, rfl, h1, h2, ⟨kk, hk⟩, .inr ⟨b, o, cv, rfl, hc, h⟩⟩

/-- so many cells, each as told -/
def Cells (g : Gh) (w : World) (b o : Nat) (l : List AV) : Prop := ∀ k x, l[k]? = some x → ∃ cv, cellAt w b (o + k) = some cv ∧ VR g w x cv

theorem Cells.drop {b o : Nat} {l : List AV} (h : Cells g w b o l) (n : Nat) : Cells g w b (o + n) (l.drop n) := fun k x e => by
  rw [List.getElem?_drop] at e
  rw [Nat.add_assoc]; exact h _ x e
theorem Cells.take {b o : Nat} {l : List AV} (h : Cells g w b o l) (n : Nat) : Cells g w b o (l.take n) := fun k x e => by
  rw [List.getElem?_take] at e
  split at e
  · exact h k x e
  · cases e

theorem cellsAt_inv {id : Nat} {cs : List AV} (h : cellsAt hp id = some cs) : hp.get id = some (.cells cs) := by
  unfold cellsAt at h
  split at h
  · rename_i cs' e; simp only [Option.some.injEq] at h; subst h; exact e
  · cases h

theorem WR.own (hW : WR GC B0 g hp c w) {id : Nat} {L : Loc} (hl : g.loc id = some L) {cs : List AV} (h : cellsAt hp id = some cs) :
    cs.length = L.n ∧ L.n ≤ L.N ∧
      (∀ k, k < L.N → g.tag L.b (L.o + k) = .own id ∧ (∃ cv, cellAt w L.b (L.o + k) = some cv) ∧ w.frozen? ⟨L.b, L.o + k, none⟩ = false) ∧
      Cells g w L.b L.o cs := by
  have := hW.obj id L hl
  rw [cellsAt_inv h] at this
  exact this

theorem Cells.load {b o : Nat} {l : List AV} (h : Cells g w b o l) :
    ∃ vs : Array Value, vs.size = l.length ∧ (loadCells ⟨b, o, none⟩ l.length).run P w = .ok vs w ∧ ∀ k x, l[k]? = some x → VR g w x (vs.getD k undef) := by
  have hj : ∀ j, j < l.length → w.cell? ((⟨b, o, none⟩ : Addr).add j) = some ((cellAt w b (o + j)).getD undef) := fun j hj => by
    obtain ⟨cv, e, _⟩ := h j l[j] (List.getElem?_eq_getElem hj)
    rw [Addr.add_spot]
    have e' : w.cell? ⟨b, o + j, none⟩ = some cv := e
    rw [e', e]; rfl
  refine ⟨((List.range l.length).map fun j => (cellAt w b (o + j)).getD undef).toArray, by simp, run_loadCells w _ _ _ hj, fun k x e => ?_⟩
  obtain ⟨cv, e1, e2⟩ := h k x e
  have hk := (List.getElem?_eq_some_iff.1 e).1
  have : (((List.range l.length).map fun j => (cellAt w b (o + j)).getD undef).toArray).getD k undef = cv := by
    simp [Array.getD_eq_getD_getElem?, hk, e1]
  rw [this]; exact e2

theorem loadC_inv {x : AV} {n : Nat} {cs : List AV} (hW : WR GC B0 g hp c w) {u : Value} (hv : VR g w x u) (h : loadC hp x n = some cs) :
    ∃ b o, u = .pointer (some ⟨b, o, none⟩) ∧ cs.length = n ∧ Cells g w b o cs := by
  cases x with
  | ptr id off =>
    obtain ⟨L, hl, rfl⟩ := hv.ptr_inv
    simp only [loadC] at h
    cases hc : cellsAt hp id with
    | none => rw [hc] at h; cases h
    | some cs' =>
      rw [hc] at h; simp only at h
      obtain ⟨e1, e2⟩ := takeN_eq _ _ _ h
      obtain ⟨_, _, _, h4⟩ := hW.own hl hc
      rw [dropN_eq] at e1 e2
      subst e2
      exact ⟨_, _, rfl, by rw [List.length_take]; omega, (h4.drop off).take n⟩
  | rop cells off =>
    simp only [loadC] at h
    obtain ⟨e1, e2⟩ := takeN_eq _ _ _ h
    rw [dropN_eq] at e1 e2
    subst e2
    cases hv with
    | rop _ _ b o cv hc hr =>
      have : Cells g w b o cells := fun k x e => ⟨cv k, (hc k x e).2, hr k x e⟩
      exact ⟨b, o + off, rfl, by rw [List.length_take]; omega, (this.drop off).take n⟩
  | _ => cases h

theorem load1_C {x y : AV} (h : load1 hp x = some y) : loadC hp x 1 = some [y] := by
  have key : ∀ (l : List AV) (n : Nat), nth l n = some y → takeN 1 (dropN n l) = some [y] := by
    intro l n e
    rw [nth_eq] at e
    rw [dropN_eq]
    obtain ⟨hlt, he⟩ := List.getElem?_eq_some_iff.1 e
    rw [List.drop_eq_getElem_cons hlt, he]
    simp [takeN]
  cases x with
  | ptr id off =>
    simp only [load1] at h
    simp only [loadC]
    cases hc : cellsAt hp id with
    | none => rw [hc] at h; cases h
    | some cs => rw [hc] at h; exact key _ _ h
  | rop cs off => exact key _ _ h
  | _ => cases h

theorem loadK_run {t : TypeId} {k : Option Nat} {x y : AV} {u : Value} (hL : Link P T E) (hk : kindOf T t = some k) (hW : WR GC B0 g hp c w) (hv : VR g w x u)
    (h : loadK hp k x = some y) : ∃ ad cv, u = .pointer (some ad) ∧ (loadVar t ad).run P w = .ok cv w ∧ VR g w y cv := by
  obtain ⟨_, _, _, h1, h2⟩ := hL.kind hk w
  cases k with
  | none =>
    obtain ⟨b, o, rfl, h4, h5⟩ := loadC_inv hW hv (load1_C h)
    obtain ⟨cv, e1, e2⟩ := h5 0 y rfl
    have e1' : w.cell? ⟨b, o, none⟩ = some cv := e1
    exact ⟨_, cv, rfl, by simp [loadVar, h1, e1'], e2⟩
  | some n =>
    simp only [loadK] at h
    cases hl : loadC hp x n with
    | none => rw [hl] at h; cases h
    | some cs =>
      rw [hl] at h; simp only [Option.some.injEq] at h; subst h
      obtain ⟨b, o, rfl, h4, h5⟩ := loadC_inv hW hv hl
      obtain ⟨vs, e1, e2, e3⟩ := h5.load (P := P)
      rw [h4] at e1 e2
      exact ⟨_, .agg vs, rfl, by simp [loadVar, h1, h2, ksz, e2], .agg _ _ (by rw [e1, h4]) e3⟩

theorem sim_load {t : TypeId} {k : Option Nat} {x : Operand} (hL : Link P T E) (hk : kindOf T t = some k) (ho : o.op = .load t x) (hc : c1 GC (.load k) x = some (d, l)) (hv : opvs tm l = some vs)
    (hW : WR GC B0 g hp c w) (hT : TM g w tm a) (hr : opRun d vs hp c = some (v, hp', c')) : Val P g w a o hp hp' c c' v := by
  obtain ⟨rfl, u, rfl, hu⟩ := c1_inv hc hv hW hT
  have hr' : (match loadK hp k u with | some v => ok v hp c | none => none) = some (v, hp', c') := hr
  cases hl : loadK hp k u with
  | none => rw [hl] at hr'; cases hr'
  | some y =>
    rw [hl] at hr'
    obtain ⟨rfl, rfl, rfl⟩ := ok_inv hr'
    obtain ⟨ad, cv, e1, e2, e3⟩ := loadK_run hL hk hW hu hl
    exact ⟨rfl, rfl, cv, by simp [execOp, ho, Instr.loadAt, Instr.sureAddr, e1, e2], e3⟩

theorem loadC_take {l : List AV} {b o : Nat} (h : Cells g w b o l) {off n : Nat} {cs : List AV} (e : takeN n (dropN off l) = some cs) :
    cs.length = n ∧ Cells g w b (o + off) cs := by
  obtain ⟨e1, e2⟩ := takeN_eq _ _ _ e
  rw [dropN_eq] at e1 e2
  subst e2
  exact ⟨by rw [List.length_take]; omega, (h.drop off).take n⟩

theorem elemCells_inv {k : Option Nat} {x : AV} {u : Value} (hW : WR GC B0 g hp c w) (hv : VR g w x u) {cs : List AV} (h : elemCells k hp x = some cs) :
    (∃ s : ByteArray, u = .string s ∧ x = .str s.data.toList ∧ k = none ∧ cs = bytesAV s.data.toList) ∨
    ∃ ad len cap, u = .slice ad len cap ∧ lenOf x = some len ∧ cs.length = len * ksz k ∧ (cs = [] ∨ ∃ b o, ad = some ⟨b, o, none⟩ ∧ Cells g w b o cs) := by
  cases x with
  | str s =>
    obtain ⟨s', rfl, rfl⟩ := hv.str_inv
    cases k with
    | none => simp only [elemCells, Option.some.injEq] at h; exact .inl ⟨s', rfl, rfl, rfl, h.symm⟩
    | some _ => cases h
  | sl xs ex =>
    right
    simp only [elemCells] at h
    cases hu : uni k xs with
    | false => rw [hu] at h; cases h
    | true =>
      rw [hu] at h; simp only [cond_true, Option.some.injEq] at h; subst h
      obtain ⟨ad, cap, rfl, h1, h2, ⟨kk, h3⟩, h4⟩ := hv.sl_inv
      have hs := uni_shp hu h3
      refine ⟨ad, _, cap, rfl, rfl, flat_len xs hs, ?_⟩
      rcases h4 with rfl | ⟨b, o, cv, rfl, hc, hr⟩
      · exact .inl rfl
      · exact .inr ⟨b, o, rfl, fun k x e => ⟨cv k, (hc k x e).2, hr k x e⟩⟩
  | arr id off len k' =>
    right
    simp only [elemCells] at h
    cases hk : kEq k' k with
    | false => rw [hk] at h; cases h
    | true =>
      rw [hk] at h; simp only [cond_true] at h
      have := kEq_iff.1 hk; subst this
      cases hc : cellsAt hp id with
      | none => rw [hc] at h; cases h
      | some cs' =>
        rw [hc] at h; simp only at h
        obtain ⟨L, ad, cap, hl, h0, rfl, h1⟩ := hv.arr_inv
        obtain ⟨_, _, _, h4⟩ := hW.own hl hc
        obtain ⟨e1, e2⟩ := loadC_take h4 h
        refine ⟨ad, len, cap, rfl, rfl, e1, ?_⟩
        rcases h1 with ⟨rfl, rfl, h1⟩ | ⟨rfl, _⟩
        · left; simpa using e1
        · exact .inr ⟨_, _, rfl, e2⟩
  | nils =>
    right
    simp only [elemCells, Option.some.injEq] at h; subst h
    cases hv with
    | nils => exact ⟨none, 0, 0, rfl, rfl, by simp, .inl rfl⟩
  | _ => cases h

theorem bytesAV_len : ∀ s : List UInt8, (bytesAV s).length = s.length
  | [] => rfl
  | _ :: s => by simp [bytesAV, bytesAV_len s]
theorem bytesAV_get : ∀ (s : List UInt8) (k : Nat), (bytesAV s)[k]? = (s[k]?).map fun b => .int .u8 b.toNat
  | [], k => by simp [bytesAV]
  | b :: s, 0 => by simp [bytesAV]
  | b :: s, k + 1 => by simp [bytesAV, bytesAV_get s k]

/-- the first cells of what is appended or copied -/
theorem firstCells_run {k : Option Nat} {x : AV} {u : Value} {n m : Nat} (hW : WR GC B0 g hp c w) (hv : VR g w x u) {cs : List AV} (h : elemCells k hp x = some cs)
    (hn : lenOf x = some n) (hm : m ≤ n) :
    (Builtin.lenOf u).run P w = .ok n w ∧ cs.length = n * ksz k ∧ ∃ vs : Array Value, vs.size = m * ksz k ∧ (Builtin.firstCells (ksz k) m u).run P w = .ok vs w ∧
      ∀ j x, j < m * ksz k → cs[j]? = some x → VR g w x (vs.getD j undef) := by
  rcases elemCells_inv hW hv h with ⟨s, rfl, rfl, rfl, rfl⟩ | ⟨ad, len, cap, rfl, hl, hlen, hcs⟩
  · simp only [lenOf, Option.some.injEq] at hn
    rw [← ba_size] at hn
    subst hn
    refine ⟨by simp [Builtin.lenOf], by rw [bytesAV_len, ← ba_size]; simp [ksz], _, ?_, by simp only [Builtin.firstCells]; rfl, fun j x hj e => ?_⟩
    · have : s.data.size = s.size := rfl
      simp [ksz, this]; omega
    · rw [bytesAV_get] at e
      simp only [ksz, Nat.mul_one] at hj
      have hjs : j < s.data.size := by have : s.data.size = s.size := rfl; omega
      have e0 : s.data.toList[j]? = some s.data[j] := by simp [hjs]
      rw [e0] at e
      simp only [Option.map_some, Option.some.injEq] at e
      subst e
      have : ((s.extract 0 m).data.map fun b => Value.int .u8 b.toNat).getD j undef = .int .u8 s.data[j].toNat := by
        have hjm : j < m := hj
        have hjs' : j < min m s.size := by have : s.data.size = s.size := rfl; omega
        have e5 : s.data[j]? = some s.data[j] := by simp [hjs]
        simp [Array.getD_eq_getD_getElem?, Array.getElem?_extract, hjs', e5]
      rw [this]
      exact .int _ _
  · rw [hl] at hn; simp only [Option.some.injEq] at hn; subst hn
    refine ⟨by simp [Builtin.lenOf], hlen, ?_⟩
    rcases hcs with rfl | ⟨b, o, rfl, hc⟩
    · have h0 : m * ksz k = 0 := by
        have : len * ksz k = 0 := by simpa using hlen.symm
        rcases Nat.mul_eq_zero.1 this with e | e
        · have : m = 0 := by omega
          simp [this]
        · simp [e]
      refine ⟨#[], by simp [h0], ?_, fun j x hj => by omega⟩
      cases ad with
      | none => simp [Builtin.firstCells]
      | some ad => simp [Builtin.firstCells, h0, loadCells, loadCellsFrom]
    · have hle : m * ksz k ≤ cs.length := by rw [hlen]; exact Nat.mul_le_mul_right _ hm
      obtain ⟨vs, e1, e2, e3⟩ := (hc.take (m * ksz k)).load (P := P)
      have hlt : (cs.take (m * ksz k)).length = m * ksz k := by simp; omega
      rw [hlt] at e1 e2
      exact ⟨vs, e1, by simp [Builtin.firstCells, e2], fun j x hj e => e3 j x (by rw [List.getElem?_take, if_pos hj]; exact e)⟩
end
end Det
namespace Det
open Go

section
variable {P : Program} {T : PT TypeInfo} {E : List Nat} {GC : GT} {B0 : Nat} {g : Gh} {hp hp' : PT HO} {c c' : Nat} {w : World} {tm : PT AV} {a : Act}
variable {o : Oper} {d : DOp} {l : List Opd} {vs : List AV} {v : AV} {fz : Bool}

theorem mulsub {m l s : Nat} (h : l ≤ m) : (m - l) * s + l * s = m * s := by
  rw [← Nat.add_mul]; congr 1; omega

theorem opt_if {q : Prop} [Decidable q] {x : Addr} {f : Addr → Addr} : (if q then some x else (some x).map f) = some (if q then x else f x) := by split <;> rfl

/-- a part of a slice -/
theorem slice_part (hW : WR GC B0 g hp c w) {k : Option Nat} {lo hi mx : Bool} {x : AV} {r : List AV} {u : Value} (hv : VR g w x u)
    (hr : oSlice k lo hi mx (x :: r) hp c = some (v, hp', c')) : hp' = hp ∧ c' = c ∧
    ∃ ad len cap dc lv hv mv, u = .slice ad len cap ∧ slBounds lo hi mx len dc r = some (lv, hv, mv) ∧ dc ≤ cap ∧
      (lv ≤ hv → (hi = false → hv = len) → (hi = true → hv ≤ mv) → mv ≤ dc → (mx = true → hi = true) →
        VR g w v (.slice (if (if mx then mv else cap) = lv then ad else ad.map (·.add (lv * ksz k))) (hv - lv) ((if mx then mv else cap) - lv))) := by
  cases x with
  | sl xs ex =>
    simp only [oSlice] at hr
    cases hu : uni k xs with
    | false => rw [hu] at hr; cases hr
    | true =>
      rw [hu] at hr; simp only [cond_true] at hr
      cases hb : slBounds lo hi mx xs.length xs.length r with
      | none => rw [hb] at hr; cases hr
      | some q =>
        obtain ⟨lv, hvv, mv⟩ := q
        rw [hb] at hr; simp only at hr
        obtain ⟨rfl, rfl, rfl⟩ := ok_inv hr
        obtain ⟨ad, cap, rfl, h1, h2, ⟨kk, h3⟩, h4⟩ := hv.sl_inv
        have hs := uni_shp hu h3
        refine ⟨rfl, rfl, some ad, xs.length, cap, xs.length, lv, hvv, mv, rfl, hb, h2, ?_⟩
        intro g1 g2 g3 g4 g5
        have hle : hvv ≤ xs.length := by
          cases hi with
          | false => rw [g2 rfl]; exact Nat.le_refl _
          | true => have := g3 rfl; omega
        have hlen : ((xs.take hvv).drop lv).length = hvv - lv := by rw [List.length_drop, List.length_take]; omega
        have hmv : hvv ≤ (if mx then mv else cap) := by
          cases mx with
          | true => have := g3 (g5 rfl); simpa using this
          | false => simp; omega
        have hex : (match (generalizing := false) mx with | true => Nat.beq mv hvv | false => ex && Nat.beq hvv xs.length) = true → (if mx then mv else cap) - lv = hvv - lv := by
          intro he
          cases mx with
          | true =>
            have := Nat.eq_of_beq_eq_true he
            subst this; rfl
          | false =>
            simp only [Bool.and_eq_true] at he
            have e1 := h1 he.1
            have e2 := Nat.eq_of_beq_eq_true he.2
            simp only [Bool.false_eq_true, if_false]
            omega
        by_cases hemp : hvv = lv
        · subst hemp
          have hnil : (xs.take hvv).drop hvv = [] := List.eq_nil_of_length_eq_zero (by rw [hlen]; omega)
          rw [hnil, Nat.sub_self, opt_if]
          exact .sl0 _ _ _ (fun he => by have := hex he; omega)
        · have hlt : lv < hvv := by omega
          have hne : xs ≠ [] := fun e => by subst e; simp at hle; omega
          rcases h4 with rfl | ⟨b, o, cv, rfl, hc, hrr⟩
          · exact absurd rfl hne
          · rw [if_neg (by omega)]
            simp only [Option.map_some, Addr.add_spot]
            have hfl : flat ((xs.take hvv).drop lv) = ((flat xs).take (hvv * ksz k)).drop (lv * ksz k) := by
              rw [flat_drop _ (fun x hx => hs x (List.mem_of_mem_take hx)) lv (by rw [List.length_take]; omega), flat_take _ hs hvv hle]
            have hget : ∀ j x, (flat ((xs.take hvv).drop lv))[j]? = some x → (flat xs)[lv * ksz k + j]? = some x := by
              intro j x e
              rw [hfl, List.getElem?_drop, List.getElem?_take] at e
              split at e
              · exact e
              · cases e
            refine .sl _ _ b (o + lv * ksz k) _ _ (fun j => cv (lv * ksz k + j)) k hlen.symm (fun x hx => hs x (List.mem_of_mem_take (List.mem_of_mem_drop hx))) hex (by omega) ?_ ?_
            · intro j x e
              rw [Nat.add_assoc]
              exact hc _ x (hget j x e)
            · intro j x e
              exact hrr _ x (hget j x e)
  | arr id off len k' =>
    simp only [oSlice] at hr
    cases hk : kEq k' k with
    | false => rw [hk] at hr; cases hr
    | true =>
      rw [hk] at hr; simp only [cond_true] at hr
      have := kEq_iff.1 hk; subst this
      cases hc : cellsAt hp id with
      | none => rw [hc] at hr; cases hr
      | some cs =>
        rw [hc] at hr; simp only at hr
        obtain ⟨L, ad, cap, hl, h0, rfl, h1⟩ := hv.arr_inv
        obtain ⟨o1, o2, _, _⟩ := hW.own hl hc
        cases hb : slBounds lo hi mx len ((cs.length - off) / ksz k') r with
        | none => rw [hb] at hr; cases hr
        | some q =>
          obtain ⟨lv, hvv, mv⟩ := q
          rw [hb] at hr; simp only at hr
          have hdc : (cs.length - off) / ksz k' ≤ cap := by
            rcases h1 with ⟨_, rfl, h1⟩ | ⟨_, h1, _, _⟩
            · have : cs.length - off = 0 := by omega
              simp [this]
            · have : cs.length - off ≤ cap * ksz k' := by omega
              exact Nat.le_trans (Nat.div_le_div_right this) (by rw [Nat.mul_div_cancel _ h0]; exact Nat.le_refl _)
          -- what is left of it, as another reference
          have key : ∀ m', lv ≤ hvv → hvv ≤ m' → m' ≤ cap → L.n ≤ off + m' * ksz k' →
              VR g w (.arr id (off + lv * ksz k') (hvv - lv) k') (.slice (if m' = lv then some ad else (some ad).map (·.add (lv * ksz k'))) (hvv - lv) (m' - lv)) := by
            intro m' g1 g2 g3 g4
            by_cases hm : m' = lv
            · subst hm
              have : hvv - m' = 0 := by omega
              rw [this, Nat.sub_self, opt_if]
              exact .arr0 _ _ _ _ L hl (by omega) h0
            · rw [if_neg hm]
              rcases h1 with ⟨_, rfl, _⟩ | ⟨rfl, h1, h5, h6⟩
              · omega
              · simp only [Option.map_some, Addr.add_spot, Nat.add_assoc]
                have e := mulsub (s := ksz k') (show lv ≤ m' by omega)
                have e2 : m' * ksz k' ≤ cap * ksz k' := Nat.mul_le_mul_right _ g3
                exact .arr _ _ _ _ L _ hl h0 (by omega) (by omega) (by omega)
          have ret : ∀ {v1 : AV}, ok v1 hp c = some (v, hp', c') → (lv ≤ hvv → (hi = false → hvv = len) → (hi = true → hvv ≤ mv) → mv ≤ (cs.length - off) / ksz k' → (mx = true → hi = true) →
              VR g w v1 (.slice (if (if mx then mv else cap) = lv then some ad else (some ad).map (·.add (lv * ksz k'))) (hvv - lv) ((if mx then mv else cap) - lv))) →
              hp' = hp ∧ c' = c ∧ ∃ ad' len' cap' dc lv hv mv, Value.slice (some ad) len cap = .slice ad' len' cap' ∧ slBounds lo hi mx len' dc r = some (lv, hv, mv) ∧ dc ≤ cap' ∧
                (lv ≤ hv → (hi = false → hv = len') → (hi = true → hv ≤ mv) → mv ≤ dc → (mx = true → hi = true) →
                  VR g w v (.slice (if (if mx then mv else cap') = lv then ad' else ad'.map (·.add (lv * ksz k'))) (hv - lv) ((if mx then mv else cap') - lv))) := by
            intro v1 h hh
            obtain ⟨rfl, rfl, rfl⟩ := ok_inv h
            exact ⟨rfl, rfl, some ad, len, cap, _, lv, hvv, mv, rfl, hb, hdc, hh⟩
          cases mx with
          | false =>
            simp only at hr
            refine ret hr (fun g1 g2 g3 g4 _ => ?_)
            simp only [Bool.false_eq_true, if_false]
            have hmc : hvv ≤ cap := by
              cases hi with
              | false =>
                rw [g2 rfl]
                rcases h1 with ⟨rfl, rfl, _⟩ | ⟨_, _, _, h6⟩
                · exact Nat.le_refl _
                · exact h6
              | true => have := g3 rfl; omega
            refine key cap g1 hmc (Nat.le_refl _) ?_
            rcases h1 with ⟨_, rfl, h1⟩ | ⟨_, h1, _, _⟩
            · omega
            · exact h1
          | true =>
            simp only at hr
            cases hml : Nat.beq mv lv with
            | true =>
              rw [hml] at hr; simp only [cond_true] at hr
              have := Nat.eq_of_beq_eq_true hml; subst this
              refine ret hr (fun g1 g2 g3 g4 g5 => ?_)
              have h3 := g3 (g5 rfl)
              have : hvv - mv = 0 := by omega
              simp only [if_true, this, Nat.sub_self]
              exact .sl0 _ _ _ (fun _ => rfl)
            | false =>
              rw [hml] at hr; simp only [cond_false] at hr
              cases hf : Nat.beq (off + mv * ksz k') cs.length with
              | false => rw [hf] at hr; cases hr
              | true =>
                rw [hf] at hr; simp only [cond_true] at hr
                have hf' := Nat.eq_of_beq_eq_true hf
                refine ret hr (fun g1 g2 g3 g4 g5 => ?_)
                simp only [if_true]
                exact key mv g1 (g3 (g5 rfl)) (by omega) (by omega)
  | nils =>
    simp only [oSlice] at hr
    cases hb : slBounds lo hi mx 0 0 r with
    | none => rw [hb] at hr; cases hr
    | some q =>
      obtain ⟨lv, hvv, mv⟩ := q
      rw [hb] at hr; simp only at hr
      obtain ⟨rfl, rfl, rfl⟩ := ok_inv hr
      cases hv with
      | nils =>
        refine ⟨rfl, rfl, none, 0, 0, 0, lv, hvv, mv, rfl, hb, Nat.le_refl _, fun g1 g2 g3 g4 g5 => ?_⟩
        have e1 : mv = 0 := by omega
        have e2 : hvv = 0 := by
          cases hi with
          | false => exact g2 rfl
          | true => have := g3 rfl; omega
        have e3 : lv = 0 := by omega
        subst e1 e2 e3
        simp only [Option.map_none, ite_self, Nat.sub_self]
        exact .nils
  | _ => cases hr

theorem sim_slice {t e : TypeId} {k : Option Nat} {x : Operand} {lo hi mx : Option Operand} (hL : Link P T E) (hu : under T t = .slice e) (hk : kindOf T e = some k)
    (ho : o.op = .slice t x lo hi mx)
    (hc : cs GC (.slice k lo.isSome hi.isSome mx.isSome) (x :: (lo.toList ++ hi.toList ++ mx.toList)) = some (d, l)) (hv : opvs tm l = some vs)
    (hW : WR GC B0 g hp c w) (hT : TM g w tm a) (hr : opRun d vs hp c = some (v, hp', c')) : Val P g w a o hp hp' c c' v := by
  obtain ⟨rfl, hvs⟩ := cs_inv hc hv hW hT
  have hun := hL.under hu (by simp)
  obtain ⟨_, _, _, _, hsz⟩ := hL.kind hk w
  cases vs with
  | nil => cases hr
  | cons u r =>
    obtain ⟨rfl, rfl, ad, len, cap, dc, lv, hvv, mv, e, hb, hle, hh⟩ := slice_part hW hvs.1 (show oSlice k lo.isSome hi.isSome mx.isSome (u :: r) hp c = _ from hr)
    obtain ⟨b1, b2, b3, b4, b5, b6, b7⟩ := slBounds_inv hb (x := lo) (y := hi) (z := mx) rfl rfl rfl hvs.2
    have hrun := sliceBounds_run (P := P) (isS := true) b1 b2 b3 b4 hle b7 w
    refine ⟨rfl, rfl, _, ?_, hh b5 (fun h => by rw [h] at b2; exact b2.2) b6 b7 b4⟩
    simp only [execOp, ho, Instr.sliceAt, Sem.run_bind, run_underlying hun, Result.andThen_ok, e, Instr.slice, hrun, hsz]
    rfl

theorem run_sliceArr {n : Nat} {k : Option Nat} {lo hi : Bool} {u : AV} {r : List AV} {u' : Value} (hW : WR GC B0 g hp c w) (hv : VR g w u u') (hr : oSliceArr n k lo hi (u :: r) hp c = some (v, hp', c')) :
    hp' = hp ∧ c' = c ∧ ∃ ad : Addr, u' = .pointer (some ad) ∧ ∃ lv hvv mv, slBounds lo hi false n n r = some (lv, hvv, mv) ∧
      (lv ≤ hvv → hvv ≤ n → VR g w v (.slice (some (if n = lv then ad else ad.add (lv * ksz k))) (hvv - lv) (n - lv))) := by
  cases u with
  | ptr id off =>
    simp only [oSliceArr] at hr
    cases hc : cellsAt hp id with
    | none => rw [hc] at hr; cases hr
    | some cs =>
      rw [hc] at hr; simp only at hr
      cases hf : Nat.beq (off + n * ksz k) cs.length && Nat.blt 0 (ksz k) with
      | false => rw [hf] at hr; cases hr
      | true =>
        rw [hf] at hr; simp only [cond_true] at hr
        simp only [Bool.and_eq_true, Nat.blt_eq] at hf
        have hf1 := Nat.eq_of_beq_eq_true hf.1
        obtain ⟨L, hl, rfl⟩ := hv.ptr_inv
        obtain ⟨o1, o2, _, _⟩ := hW.own hl hc
        cases hb : slBounds lo hi false n n r with
        | none => rw [hb] at hr; cases hr
        | some q =>
          obtain ⟨lv, hvv, mv⟩ := q
          rw [hb] at hr; simp only at hr
          obtain ⟨rfl, rfl, rfl⟩ := ok_inv hr
          refine ⟨rfl, rfl, _, rfl, lv, hvv, mv, rfl, fun g1 g2 => ?_⟩
          by_cases hm : n = lv
          · subst hm
            have : hvv - n = 0 := by omega
            rw [this, Nat.sub_self]
            exact .arr0 _ _ _ _ L hl (by omega) hf.2
          · rw [if_neg hm, Addr.add_spot, Nat.add_assoc]
            have e := mulsub (s := ksz k) (show lv ≤ n by omega)
            exact .arr _ _ _ _ L _ hl hf.2 (by omega) (by omega) (by omega)
  | _ => cases hr

theorem sim_sliceArr {t e : TypeId} {n : Nat} {k : Option Nat} {x : Operand} {lo hi : Option Operand} (hL : Link P T E)
    (hu : under T t = .array n e ∨ ∃ s, under T t = .pointer s ∧ under T s = .array n e) (hk : kindOf T e = some k)
    (ho : o.op = .slice t x lo hi none)
    (hc : cs GC (.sliceArr n k lo.isSome hi.isSome) (x :: (lo.toList ++ hi.toList ++ (none : Option Operand).toList)) = some (d, l)) (hv : opvs tm l = some vs)
    (hW : WR GC B0 g hp c w) (hT : TM g w tm a) (hr : opRun d vs hp c = some (v, hp', c')) : Val P g w a o hp hp' c c' v := by
  obtain ⟨rfl, hvs⟩ := cs_inv hc hv hW hT
  obtain ⟨_, _, _, _, hsz⟩ := hL.kind hk w
  cases vs with
  | nil => cases hr
  | cons u r =>
    obtain ⟨rfl, rfl, ad, e1, lv, hvv, mv, hb, hh⟩ := run_sliceArr hW hvs.1 (show oSliceArr n k lo.isSome hi.isSome (u :: r) hp c = _ from hr)
    obtain ⟨b1, b2, b3, b4, b5, b6, b7⟩ := slBounds_inv hb (x := lo) (y := hi) (z := none) rfl rfl rfl hvs.2
    have hrun := sliceBounds_run (P := P) (isS := false) b1 b2 b3 b4 (Nat.le_refl _) b7 w
    have hle : hvv ≤ n := by
      cases hh' : hi.isSome with
      | false => rw [hh'] at b2; rw [b2.2]; exact Nat.le_refl _
      | true => have := b6 hh'; omega
    refine ⟨rfl, rfl, _, ?_, hh b5 hle⟩
    simp only [Bool.false_eq_true, if_false, Option.map_none] at hrun
    rcases hu with hu | ⟨s, hu, hu2⟩
    · have hun := hL.under hu (by simp)
      simp only [execOp, ho, Instr.sliceAt, Sem.run_bind, run_underlying hun, Result.andThen_ok, e1, Instr.sureAddr, Sem.run_pure, Option.map_none, hrun, hsz]
    · have hun := hL.under hu (by simp)
      have hun2 := hL.under hu2 (by simp)
      simp only [execOp, ho, Instr.sliceAt, Instr.slice, Sem.run_bind, run_underlying hun, run_underlying hun2, Result.andThen_ok, e1, asAddr, Sem.run_pure, Option.map_none, hrun, hsz]
end
end Det
namespace Det
open Go

section
variable {P : Program} {T : PT TypeInfo} {E : List Nat} {GC : GT} {B0 : Nat} {g : Gh} {hp hp' : PT HO} {c c' : Nat} {w : World} {tm : PT AV} {a : Act}
variable {o : Oper} {d : DOp} {l : List Opd} {vs : List AV} {v : AV} {fz : Bool}

theorem Link.sizeNz (hL : Link P T E) {t : TypeId} (h : Det.size T t ≠ 0) (w : World) : (Go.sizeOf t).run P w = .ok (Det.size T t) w := by
  unfold Det.size at h ⊢
  cases hT : T.get t with
  | none => rw [hT] at h; exact absurd rfl h
  | some i => rw [hT] at h; simp [Go.sizeOf, typeInfo, hL.info t i hT]

theorem VR.rop_add {cs : List AV} {off n : Nat} {u : Value} (h : VR g w (.rop cs off) u) :
    ∃ b o, u = .pointer (some ⟨b, o, none⟩) ∧ VR g w (.rop cs (off + n)) (.pointer (some ⟨b, o + n, none⟩)) := by
  cases h with
  | rop _ _ b o cv h1 h2 => exact ⟨b, o + off, rfl, by rw [Nat.add_assoc]; exact .rop _ _ _ _ cv h1 h2⟩
theorem VR.ptr_add {id off n : Nat} {u : Value} (h : VR g w (.ptr id off) u) :
    ∃ b o, u = .pointer (some ⟨b, o, none⟩) ∧ VR g w (.ptr id (off + n)) (.pointer (some ⟨b, o + n, none⟩)) := by
  cases h with
  | ptr _ _ L e => exact ⟨L.b, L.o + off, rfl, by rw [Nat.add_assoc]; exact .ptr _ _ _ e⟩

theorem sim_fieldAddr {s : TypeId} {x : Operand} {f : Nat} {fs : Array Field} {fl : Field} (hL : Link P T E) (hu : under T s = .struct fs) (hf : fs[f]? = some fl)
    (hz : Nat.beq (size T fl.type) 0 = false) (ho : o.op = .fieldAddr s x f) (hc : c1 GC (.fieldAddr fl.offset) x = some (d, l)) (hv : opvs tm l = some vs)
    (hW : WR GC B0 g hp c w) (hT : TM g w tm a) (hr : opRun d vs hp c = some (v, hp', c')) : Val P g w a o hp hp' c c' v := by
  obtain ⟨rfl, u, rfl, hu'⟩ := c1_inv hc hv hW hT
  have hun := hL.under hu (by simp)
  have hz' : size T fl.type ≠ 0 := fun e => by rw [e] at hz; cases hz
  have hsz := hL.sizeNz hz' w
  have key : ∀ b o', a.eval x = .pointer (some ⟨b, o', none⟩) → (execOp a.eval o).run P w = .ok (.value (.pointer (some ⟨b, o' + fl.offset, none⟩))) w := by
    intro b o' e
    simp [execOp, ho, e, Instr.fieldAt, run_underlying hun, hf, Instr.sureAddr, fieldPlace, hsz, hz', Addr.add_spot]
  cases u with
  | ptr id off =>
    obtain ⟨rfl, rfl, rfl⟩ := ok_inv (show ok (.ptr id (off + fl.offset)) hp c = _ from hr)
    obtain ⟨b, o', e, h⟩ := hu'.ptr_add (n := fl.offset)
    exact ⟨rfl, rfl, _, key b o' e, h⟩
  | rop cs off =>
    obtain ⟨rfl, rfl, rfl⟩ := ok_inv (show ok (.rop cs (off + fl.offset)) hp c = _ from hr)
    obtain ⟨b, o', e, h⟩ := hu'.rop_add (n := fl.offset)
    exact ⟨rfl, rfl, _, key b o' e, h⟩
  | _ => cases hr

/-- a part of an aggregate -/
theorem part_run {t : TypeId} {k : Option Nat} (hL : Link P T E) (hk : kindOf T t = some k) {cs : List AV} {xs : Array Value} (hlen : cs.length = xs.size)
    (hr : ∀ j x, cs[j]? = some x → VR g w x (xs.getD j undef)) {off : Nat} {y : AV} (h : Det.partAt k cs off = some y) :
    ∃ cv, (∀ w', (part t xs off).run P w' = .ok cv w') ∧ VR g w y cv := by
  have h1 := fun w' => (hL.kind hk w').2.2.2.1
  have h2 := fun w' => (hL.kind hk w').2.2.2.2
  cases k with
  | none =>
    simp only [Det.partAt, nth_eq] at h
    have hlt := (List.getElem?_eq_some_iff.1 h).1
    have hlt' : off < xs.size := by omega
    have e : xs[off]? = some xs[off] := Array.getElem?_eq_getElem hlt'
    have e2 : xs.getD off undef = xs[off] := by simp [Array.getD_eq_getD_getElem?, hlt']
    have := hr off y h
    rw [e2] at this
    exact ⟨_, fun w' => by simp [part, h1, e], this⟩
  | some n =>
    simp only [Det.partAt] at h
    cases ht : takeN n (dropN off cs) with
    | none => rw [ht] at h; cases h
    | some q =>
      rw [ht] at h; simp only [Option.some.injEq] at h; subst h
      obtain ⟨e1, e2⟩ := takeN_eq _ _ _ ht
      rw [dropN_eq] at e1 e2
      have hdl : (cs.drop off).length = cs.length - off := List.length_drop ..
      rcases Nat.eq_zero_or_pos n with hn | hn
      · subst hn
        subst e2
        refine ⟨.agg (xs.extract off off), fun w' => by simp [part, h1, h2, ksz], .agg _ _ (by simp; omega) (fun j x e => by simp at e)⟩
      · refine ⟨.agg (xs.extract off (off + n)), fun w' => by simp [part, h1, h2, ksz], .agg _ _ ?_ (fun j x e => ?_)⟩
        · subst e2; rw [List.length_take, Array.size_extract]; omega
        · subst e2
          rw [List.getElem?_take] at e
          split at e
          · rename_i hj
            rw [List.getElem?_drop] at e
            have := hr _ x e
            have e3 : (xs.extract off (off + n)).getD j undef = xs.getD (off + j) undef := by
              have : j < min (off + n) xs.size - off := by omega
              simp only [Array.getD_eq_getD_getElem?, Array.getElem?_extract, if_pos this]
            rw [e3]; exact this
          · cases e

theorem sim_field {t : TypeId} {k : Option Nat} {x : Operand} {f : Nat} {fs : Array Field} {fl : Field} (hL : Link P T E) (hu : under T t = .struct fs) (hf : fs[f]? = some fl)
    (hk : kindOf T fl.type = some k) (ho : o.op = .field t x f) (hc : c1 GC (.field k fl.offset) x = some (d, l)) (hv : opvs tm l = some vs)
    (hW : WR GC B0 g hp c w) (hT : TM g w tm a) (hr : opRun d vs hp c = some (v, hp', c')) : Val P g w a o hp hp' c c' v := by
  obtain ⟨rfl, u, rfl, hu'⟩ := c1_inv hc hv hW hT
  have hun := hL.under hu (by simp)
  cases u with
  | agg cs =>
    have hr' : (match Det.partAt k cs fl.offset with | some v => ok v hp c | none => none) = some (v, hp', c') := hr
    cases hp1 : Det.partAt k cs fl.offset with
    | none => rw [hp1] at hr'; cases hr'
    | some y =>
      rw [hp1] at hr'
      obtain ⟨rfl, rfl, rfl⟩ := ok_inv hr'
      obtain ⟨xs, e, h1, h2⟩ := hu'.agg_inv
      obtain ⟨cv, e1, e2⟩ := part_run hL hk h1 h2 hp1
      exact ⟨rfl, rfl, cv, by simp [execOp, ho, e, Instr.field, run_underlying hun, hf, asAgg, e1], e2⟩
  | _ => cases hr

theorem sim_indexAgg {t e : TypeId} {n : Nat} {k : Option Nat} {x y : Operand} (hL : Link P T E) (hu : under T t = .array n e)
    (hk : kindOf T e = some k) (ho : o.op = .index t x y) (hc : c2 GC (.indexAgg n k) x y = some (d, l)) (hv : opvs tm l = some vs)
    (hW : WR GC B0 g hp c w) (hT : TM g w tm a) (hr : opRun d vs hp c = some (v, hp', c')) : Val P g w a o hp hp' c c' v := by
  obtain ⟨rfl, u, s, rfl, hu', hs⟩ := c2_inv hc hv hW hT
  have hun := hL.under hu (by simp)
  have hsz := (hL.kind hk w).2.2.2.2
  cases u with
  | agg cs =>
    cases s with
    | int kk i =>
      cases i with
      | ofNat j =>
        have hr' : (bif Nat.blt j n then (match Det.partAt k cs (j * ksz k) with | some v => ok v hp c | none => none) else none) = some (v, hp', c') := hr
        cases hj : Nat.blt j n with
        | false => rw [hj] at hr'; cases hr'
        | true =>
          rw [hj] at hr'; simp only [cond_true] at hr'
          rw [Nat.blt_eq] at hj
          cases hp1 : Det.partAt k cs (j * ksz k) with
          | none => rw [hp1] at hr'; cases hr'
          | some y' =>
            rw [hp1] at hr'
            obtain ⟨rfl, rfl, rfl⟩ := ok_inv hr'
            obtain ⟨xs, e, h1, h2⟩ := hu'.agg_inv
            obtain ⟨cv, e1, e2⟩ := part_run hL hk h1 h2 hp1
            have e3 := hs.int_inv
            exact ⟨rfl, rfl, cv, by simp [execOp, ho, e, e3, Instr.index, run_underlying hun, asIntOf, e1, hsz, hj], e2⟩
      | negSucc j => cases hr
    | _ => cases hr
  | _ => cases hr

theorem ba_get (s : ByteArray) (j : Nat) : s[j]? = s.data.toList[j]? := by
  by_cases h : j < s.size
  · rw [getElem?_pos s j h]
    have h' : j < s.data.size := h
    rw [Array.getElem?_toList, Array.getElem?_eq_getElem h']
    rfl
  · rw [getElem?_neg s j h]
    have h' : ¬ j < s.data.size := h
    rw [Array.getElem?_toList, Array.getElem?_eq_none (Nat.le_of_not_lt h')]

theorem sim_indexStr {t : TypeId} {x y : Operand} (hL : Link P T E) (hu : under T t = .string)
    (ho : o.op = .index t x y) (hc : c2 GC .indexStr x y = some (d, l)) (hv : opvs tm l = some vs)
    (hW : WR GC B0 g hp c w) (hT : TM g w tm a) (hr : opRun d vs hp c = some (v, hp', c')) : Val P g w a o hp hp' c c' v := by
  obtain ⟨rfl, u, s, rfl, hu', hs⟩ := c2_inv hc hv hW hT
  have hun := hL.under hu (by simp)
  cases u with
  | str cs =>
    cases s with
    | int kk i =>
      cases i with
      | ofNat j =>
        have hr' : (match cs[j]? with | some b => ok (.int .u8 b.toNat) hp c | none => none) = some (v, hp', c') := hr
        cases hj : cs[j]? with
        | none => rw [hj] at hr'; cases hr'
        | some b =>
          rw [hj] at hr'
          obtain ⟨rfl, rfl, rfl⟩ := ok_inv hr'
          obtain ⟨s', e, rfl⟩ := hu'.str_inv
          have e3 := hs.int_inv
          have e4 : s'[j]? = some b := by rw [ba_get]; exact hj
          exact ⟨rfl, rfl, .int .u8 b.toNat, by simp [execOp, ho, e, e3, Instr.index, run_underlying hun, asIntOf, e4], .int _ _⟩
      | negSucc j => cases hr
    | _ => cases hr
  | _ => cases hr

theorem sim_indexAddr {t e : TypeId} {k : Option Nat} {x y : Operand} (hL : Link P T E) (hu : under T t = .slice e)
    (hk : kindOf T e = some k) (ho : o.op = .indexAddr t x y) (hc : c2 GC (.indexAddr k) x y = some (d, l)) (hv : opvs tm l = some vs)
    (hW : WR GC B0 g hp c w) (hT : TM g w tm a) (hr : opRun d vs hp c = some (v, hp', c')) : Val P g w a o hp hp' c c' v := by
  obtain ⟨rfl, u, s, rfl, hu', hs⟩ := c2_inv hc hv hW hT
  have hun := hL.under hu (by simp)
  have hsz := (hL.kind hk w).2.2.2.2
  have hpos := (hL.kind hk w).2.1
  have key : ∀ ad len cap kk (j : Nat), a.eval x = .slice (some ad) len cap → a.eval y = .int kk j → j < len →
      (execOp a.eval o).run P w = .ok (.value (.pointer (some (ad.add (j * ksz k))))) w := by
    intro ad len cap kk j e1 e2 hj
    simp [execOp, ho, e1, e2, Instr.indexAt, run_underlying hun, asIntOf, hsz, hj]
  cases u with
  | sl xs ex =>
    cases s with
    | int kk i =>
      cases i with
      | ofNat j =>
        have hr' : (bif uni k xs then (match nth xs j with | some v => ok (.rop v.cells 0) hp c | none => none) else none) = some (v, hp', c') := hr
        cases hun' : uni k xs with
        | false => rw [hun'] at hr'; cases hr'
        | true =>
          rw [hun'] at hr'; simp only [cond_true, nth_eq] at hr'
          cases hj : xs[j]? with
          | none => rw [hj] at hr'; cases hr'
          | some z =>
            rw [hj] at hr'
            obtain ⟨rfl, rfl, rfl⟩ := ok_inv hr'
            obtain ⟨ad, cap, e1, h1, h2, ⟨kk', h3⟩, h4⟩ := hu'.sl_inv
            have hss := uni_shp hun' h3
            have hlt := (List.getElem?_eq_some_iff.1 hj).1
            rcases h4 with rfl | ⟨b, o', cv, rfl, hcc, hrr⟩
            · simp at hj
            · refine ⟨rfl, rfl, _, key _ _ _ kk j e1 hs.int_inv hlt, ?_⟩
              rw [Addr.add_spot]
              have hcl := shp_cells (hss z (List.mem_of_getElem? hj))
              have hget : ∀ q x, z.cells[q]? = some x → (flat xs)[j * ksz k + q]? = some x := fun q x e => by
                rw [flat_at xs hss hj q (by have := (List.getElem?_eq_some_iff.1 e).1; omega)]; exact e
              exact .rop _ 0 b (o' + j * ksz k) (fun q => cv (j * ksz k + q)) (fun q x e => by rw [Nat.add_assoc]; exact hcc _ x (hget q x e)) (fun q x e => hrr _ x (hget q x e))
      | negSucc j => cases hr
    | _ => cases hr
  | arr id off len k' =>
    cases s with
    | int kk i =>
      cases i with
      | ofNat j =>
        have hr' : (bif kEq k' k && Nat.blt j len then ok (.ptr id (off + j * ksz k)) hp c else none) = some (v, hp', c') := hr
        cases hb : kEq k' k && Nat.blt j len with
        | false => rw [hb] at hr'; cases hr'
        | true =>
          rw [hb] at hr'; simp only [cond_true] at hr'
          simp only [Bool.and_eq_true, Nat.blt_eq] at hb
          have := kEq_iff.1 hb.1; subst this
          obtain ⟨rfl, rfl, rfl⟩ := ok_inv hr'
          obtain ⟨L, ad, cap, hl, h0, e1, h1⟩ := hu'.arr_inv
          rcases h1 with ⟨rfl, _, _⟩ | ⟨rfl, h1, h2, h3⟩
          · omega
          · refine ⟨rfl, rfl, _, key _ _ _ kk j e1 hs.int_inv hb.2, ?_⟩
            rw [Addr.add_spot, Nat.add_assoc]
            exact .ptr _ _ L hl
      | negSucc j => cases hr
    | _ => cases hr
  | _ => cases hr

theorem sim_indexArr {t e : TypeId} {n : Nat} {k : Option Nat} {x y : Operand} (hL : Link P T E) (hu : under T t = .array n e)
    (hk : kindOf T e = some k) (ho : o.op = .indexAddr t x y) (hc : c2 GC (.indexArr n (ksz k)) x y = some (d, l)) (hv : opvs tm l = some vs)
    (hW : WR GC B0 g hp c w) (hT : TM g w tm a) (hr : opRun d vs hp c = some (v, hp', c')) : Val P g w a o hp hp' c c' v := by
  obtain ⟨rfl, u, s, rfl, hu', hs⟩ := c2_inv hc hv hW hT
  have hun := hL.under hu (by simp)
  have hsz := (hL.kind hk w).2.2.2.2
  have key : ∀ b o' kk (j : Nat), a.eval x = .pointer (some ⟨b, o', none⟩) → a.eval y = .int kk j → j < n →
      (execOp a.eval o).run P w = .ok (.value (.pointer (some ⟨b, o' + j * ksz k, none⟩))) w := by
    intro b o' kk j e1 e2 hj
    simp [execOp, ho, e1, e2, Instr.indexAt, run_underlying hun, asIntOf, hsz, hj, Instr.sureAddr, Addr.add_spot]
  cases u with
  | ptr id off =>
    cases s with
    | int kk i =>
      cases i with
      | ofNat j =>
        have hr' : (bif Nat.blt j n then ok (.ptr id (off + j * ksz k)) hp c else none) = some (v, hp', c') := hr
        cases hb : Nat.blt j n with
        | false => rw [hb] at hr'; cases hr'
        | true =>
          rw [hb] at hr'
          obtain ⟨rfl, rfl, rfl⟩ := ok_inv hr'
          obtain ⟨b, o', e, h⟩ := hu'.ptr_add (n := j * ksz k)
          exact ⟨rfl, rfl, _, key b o' kk j e hs.int_inv (by simpa [Nat.blt_eq] using hb), h⟩
      | negSucc j => cases hr
    | _ => cases hr
  | rop cs off =>
    cases s with
    | int kk i =>
      cases i with
      | ofNat j =>
        have hr' : (bif Nat.blt j n then ok (.rop cs (off + j * ksz k)) hp c else none) = some (v, hp', c') := hr
        cases hb : Nat.blt j n with
        | false => rw [hb] at hr'; cases hr'
        | true =>
          rw [hb] at hr'
          obtain ⟨rfl, rfl, rfl⟩ := ok_inv hr'
          obtain ⟨b, o', e, h⟩ := hu'.rop_add (n := j * ksz k)
          exact ⟨rfl, rfl, _, key b o' kk j e hs.int_inv (by simpa [Nat.blt_eq] using hb), h⟩
      | negSucc j => cases hr
    | _ => cases hr
  | _ => cases hr

theorem VR.nili_inv {u : Value} (h : VR g w .nili u) : u = .nilIface := by cases h; rfl

theorem sim_assertT {x : Operand} {xt t : TypeId} {z : AV} {ok' : Bool} (hL : Link P T E) (hu : under T t ≠ .invalid) (hi : ∀ ms, under T t ≠ .interface ms) (hz : zeroAV T t = some z)
    (ho : o.op = .typeAssert x xt t ok') (hc : c1 GC (.assertT t z ok') x = some (d, l)) (hv : opvs tm l = some vs)
    (hW : WR GC B0 g hp c w) (hT : TM g w tm a) (hr : opRun d vs hp c = some (v, hp', c')) : Val P g w a o hp hp' c c' v := by
  obtain ⟨rfl, u, rfl, hu'⟩ := c1_inv hc hv hW hT
  have hun := hL.under (d := under T t) rfl hu
  obtain ⟨zv, hz1, hz2⟩ := hL.zero hz g w
  cases u with
  | nili =>
    have hr' : (bif ok' then ok (.tup [z, .bool false]) hp c else none) = some (v, hp', c') := hr
    cases ok' with
    | false => cases hr'
    | true =>
      obtain ⟨rfl, rfl, rfl⟩ := ok_inv hr'
      have e : a.eval x = .nilIface := hu'.nili_inv
      refine ⟨rfl, rfl, .tuple #[zv, .bool false], ?_, ?_⟩
      · simp only [execOp, ho, e, Instr.typeAssert, Sem.run_bind, run_underlying hun, Result.andThen_ok]
        cases hd : under T t <;> first
          | exact absurd hd (hi _)
          | (simp [hz2]; done)
      · refine .tup _ _ rfl (fun k x e => ?_)
        match k with
        | 0 => simp at e; subst e; simpa using hz1
        | 1 => simp at e; subst e; simpa using VR.bool false
        | k + 2 => simp at e
  | iface t' y =>
    obtain ⟨y', e, hy⟩ := hu'.iface_inv
    have hr' : (bif Nat.beq t' t then (bif ok' then ok (.tup [y, .bool true]) hp c else ok y hp c)
      else (bif ok' then ok (.tup [z, .bool false]) hp c else none)) = some (v, hp', c') := hr
    cases hb : Nat.beq t' t with
    | true =>
      have := Nat.eq_of_beq_eq_true hb; subst this
      rw [hb] at hr'; simp only [cond_true] at hr'
      cases ok' with
      | false =>
        obtain ⟨rfl, rfl, rfl⟩ := ok_inv hr'
        refine ⟨rfl, rfl, y', ?_, hy⟩
        simp only [execOp, ho, e, Instr.typeAssert, Sem.run_bind, run_underlying hun, Result.andThen_ok]
        cases hd : under T t' <;> first
          | exact absurd hd (hi _)
          | (simp; done)
      | true =>
        obtain ⟨rfl, rfl, rfl⟩ := ok_inv hr'
        refine ⟨rfl, rfl, .tuple #[y', .bool true], ?_, ?_⟩
        · simp only [execOp, ho, e, Instr.typeAssert, Sem.run_bind, run_underlying hun, Result.andThen_ok]
          cases hd : under T t' <;> first
            | exact absurd hd (hi _)
            | (simp; done)
        · refine .tup _ _ rfl (fun k x e => ?_)
          match k with
          | 0 => simp at e; subst e; simpa using hy
          | 1 => simp at e; subst e; simpa using VR.bool true
          | k + 2 => simp at e
    | false =>
      have hne : t' ≠ t := fun h => by subst h; simp [Nat.beq_refl] at hb
      rw [hb] at hr'; simp only [cond_false] at hr'
      cases ok' with
      | false => cases hr'
      | true =>
        obtain ⟨rfl, rfl, rfl⟩ := ok_inv hr'
        refine ⟨rfl, rfl, .tuple #[zv, .bool false], ?_, ?_⟩
        · simp only [execOp, ho, e, Instr.typeAssert, Sem.run_bind, run_underlying hun, Result.andThen_ok]
          cases hd : under T t <;> first
            | exact absurd hd (hi _)
            | (simp [hz2, hne]; done)
        · refine .tup _ _ rfl (fun k x e => ?_)
          match k with
          | 0 => simp at e; subst e; simpa using hz1
          | 1 => simp at e; subst e; simpa using VR.bool false
          | k + 2 => simp at e
  | _ => cases hr

theorem sim_extract {x : Operand} {i : Nat} (ho : o.op = .extract x i) (hc : c1 GC (.extract i) x = some (d, l)) (hv : opvs tm l = some vs)
    (hW : WR GC B0 g hp c w) (hT : TM g w tm a) (hr : opRun d vs hp c = some (v, hp', c')) : Val P g w a o hp hp' c c' v := by
  obtain ⟨rfl, u, rfl, hu⟩ := c1_inv hc hv hW hT
  cases u with
  | tup cs =>
    have hr' : (match nth cs i with | some v => ok v hp c | none => none) = some (v, hp', c') := hr
    rw [nth_eq] at hr'
    cases hj : cs[i]? with
    | none => rw [hj] at hr'; cases hr'
    | some y =>
      rw [hj] at hr'
      obtain ⟨rfl, rfl, rfl⟩ := ok_inv hr'
      obtain ⟨xs, e, h1, h2⟩ := hu.tup_inv
      have hlt := (List.getElem?_eq_some_iff.1 hj).1
      have hlt' : i < xs.size := by omega
      have e2 : xs[i]? = some xs[i] := Array.getElem?_eq_getElem hlt'
      have e3 : xs.getD i undef = xs[i] := by simp [Array.getD_eq_getD_getElem?, hlt']
      have := h2 i _ hj
      rw [e3] at this
      exact ⟨rfl, rfl, _, by simp [execOp, ho, e, Instr.extract, e2], this⟩
  | _ => cases hr

theorem callee_run (a : Act) {b : Builtin} {cl : Call} (ho : o.op = .call cl) (hb : cl.callee = .builtin b) :
    ∃ consts, execOp a.eval o = builtin b cl.argTypes o.type consts (cl.args.map a.eval) :=
  ⟨_, by simp only [execOp, ho, resolve, hb, invoke, pure_bind]; rfl⟩

theorem sim_len {t : TypeId} {x : Operand} {cl : Call} {s : Bool} (hL : Link P T E) (ho : o.op = .call cl) (hb : cl.callee = .builtin .len) (hargs : cl.args.toList = [x])
    (ht : cl.argTypes[0]? = some t) (hu : bif s then under T t = .string else ∃ e, under T t = .slice e)
    (hc : c1 GC (.len s) x = some (d, l)) (hv : opvs tm l = some vs)
    (hW : WR GC B0 g hp c w) (hT : TM g w tm a) (hr : opRun d vs hp c = some (v, hp', c')) : Val P g w a o hp hp' c c' v := by
  obtain ⟨rfl, u, rfl, hu'⟩ := c1_inv hc hv hW hT
  have hargs' : cl.args = #[x] := by rw [← Array.toArray_toList (xs := cl.args), hargs]
  rw [Val, Vals]
  cases s with
  | true =>
    have hun := hL.under (d := .string) hu (by simp)
    cases u with
    | str s =>
      obtain ⟨rfl, rfl, rfl⟩ := ok_inv (show ok (.int .i64 s.length) hp c = _ from hr)
      obtain ⟨s', e, rfl⟩ := hu'.str_inv
      refine ⟨rfl, rfl, .int .i64 s'.size, ?_, by rw [ba_size]; exact .int _ _⟩
      obtain ⟨consts, hcr⟩ := callee_run a ho hb
      rw [hcr]
      simp [builtin, hargs', e, Builtin.len_, ht, run_underlying hun, goInt]
    | _ => cases hr
  | false =>
    obtain ⟨e, hu⟩ := hu
    have hun := hL.under hu (by simp)
    have key : ∀ ad n cap, a.eval x = .slice ad n cap → (execOp a.eval o).run P w = .ok (.value (.int .i64 n)) w := by
      intro ad n cap e
      obtain ⟨consts, hcr⟩ := callee_run a ho hb
      rw [hcr]
      simp [builtin, hargs', e, Builtin.len_, ht, run_underlying hun, goInt]
    cases u with
    | sl xs ex =>
      obtain ⟨rfl, rfl, rfl⟩ := ok_inv (show ok (.int .i64 xs.length) hp c = _ from hr)
      obtain ⟨ad, cap, e1, _⟩ := hu'.sl_inv
      exact ⟨rfl, rfl, _, key _ _ _ e1, .int _ _⟩
    | arr id off len k =>
      obtain ⟨rfl, rfl, rfl⟩ := ok_inv (show ok (.int .i64 len) hp c = _ from hr)
      obtain ⟨L, ad, cap, _, _, e1, _⟩ := hu'.arr_inv
      exact ⟨rfl, rfl, _, key _ _ _ e1, .int _ _⟩
    | nils =>
      obtain ⟨rfl, rfl, rfl⟩ := ok_inv (show ok (.int .i64 0) hp c = _ from hr)
      generalize hev : a.eval x = y at hu'
      cases hu' with
      | nils => exact ⟨rfl, rfl, _, key _ _ _ hev, .int _ _⟩
    | _ => cases hr

theorem sim_min {x y : Operand} {cl : Call} (ho : o.op = .call cl) (hb : cl.callee = .builtin .min) (hargs : cl.args.toList = [x, y])
    (hc : c2 GC .min x y = some (d, l)) (hv : opvs tm l = some vs)
    (hW : WR GC B0 g hp c w) (hT : TM g w tm a) (hr : opRun d vs hp c = some (v, hp', c')) : Val P g w a o hp hp' c c' v := by
  obtain ⟨rfl, u, s, rfl, hu, hs⟩ := c2_inv hc hv hW hT
  have hargs' : cl.args = #[x, y] := by rw [← Array.toArray_toList (xs := cl.args), hargs]
  cases u with
  | int k m =>
    cases s with
    | int j n =>
      obtain ⟨rfl, rfl, rfl⟩ := ok_inv (show ok (.int k (bif intLt n m then n else m)) hp c = _ from hr)
      refine ⟨rfl, rfl, .int k (bif intLt n m then n else m), ?_, .int _ _⟩
      obtain ⟨consts, hcr⟩ := callee_run a ho hb
      rw [hcr]
      simp only [builtin, hargs', hu.int_inv, hs.int_inv, Builtin.min_, intLt_iff, List.map_toArray, List.map_cons, List.map_nil, List.foldlM_cons, List.foldlM_nil, Builtin.min2,
        Sem.run_bind, Sem.run_pure, Result.andThen_ok]
      by_cases hlt : n < m <;> simp [hlt]
    | _ => cases hr
  | _ => cases hr

theorem sim_max {x y : Operand} {cl : Call} (ho : o.op = .call cl) (hb : cl.callee = .builtin .max) (hargs : cl.args.toList = [x, y])
    (hc : c2 GC .max x y = some (d, l)) (hv : opvs tm l = some vs)
    (hW : WR GC B0 g hp c w) (hT : TM g w tm a) (hr : opRun d vs hp c = some (v, hp', c')) : Val P g w a o hp hp' c c' v := by
  obtain ⟨rfl, u, s, rfl, hu, hs⟩ := c2_inv hc hv hW hT
  have hargs' : cl.args = #[x, y] := by rw [← Array.toArray_toList (xs := cl.args), hargs]
  cases u with
  | int k m =>
    cases s with
    | int j n =>
      obtain ⟨rfl, rfl, rfl⟩ := ok_inv (show ok (.int k (bif intLt m n then n else m)) hp c = _ from hr)
      refine ⟨rfl, rfl, .int k (bif intLt m n then n else m), ?_, .int _ _⟩
      obtain ⟨consts, hcr⟩ := callee_run a ho hb
      rw [hcr]
      simp only [builtin, hargs', hu.int_inv, hs.int_inv, Builtin.max_, intLt_iff, List.map_toArray, List.map_cons, List.map_nil, List.foldlM_cons, List.foldlM_nil, Builtin.max2,
        Sem.run_bind, Sem.run_pure, Result.andThen_ok, gt_iff_lt]
      by_cases hlt : m < n <;> simp [hlt]
    | _ => cases hr
  | _ => cases hr
end
end Det
namespace Det
open Go

section
variable {P : Program} {T : PT TypeInfo} {E : List Nat} {GC : GT} {B0 : Nat} {g : Gh} {hp hp' : PT HO} {c c' : Nat} {w : World} {tm : PT AV} {a : Act}
variable {o : Oper} {d : DOp} {l : List Opd} {vs : List AV} {v : AV} {fz : Bool}

-- ------------------------------------------------------------------ equality

theorem eqFlat_run (hL : Link P T E) {t : TypeId} {x y : AV} {u s : Value} (hx : VR g w x u) (hy : VR g w y s) {r : Bool} (h : eqFlat (eqF T t) x y = some r) (n : Nat) (w' : World) :
    (Op.equalIn (n + 1) t u s).run P w' = .ok r w' := by
  unfold eqF at h
  cases hu : under T t with
  | int k =>
    rw [hu] at h
    have hun := hL.under hu (by simp)
    cases x <;> first | (cases h; done) | skip
    cases y <;> first | (cases h; done) | skip
    rename_i k1 a k2 b
    have h' : (bif k1 == k2 then some (intEq a b) else none) = some r := h
    cases hk : k1 == k2 with
    | false => rw [hk] at h'; cases h'
    | true =>
      rw [hk] at h'; simp only [cond_true, Option.some.injEq] at h'; subst h'
      have := eq_of_beq hk; subst this
      rw [hx.int_inv, hy.int_inv, run_equalIn_int _ _ _ _ _ _ _ hun, intEq_iff]
  | string =>
    rw [hu] at h
    have hun := hL.under hu (by simp)
    cases x <;> first | (cases h; done) | skip
    cases y <;> first | (cases h; done) | skip
    rename_i a b
    have h' : some (strEq a b) = some r := h
    simp only [Option.some.injEq] at h'; subst h'
    obtain ⟨a', rfl, rfl⟩ := hx.str_inv
    obtain ⟨b', rfl, rfl⟩ := hy.str_inv
    rw [run_equalIn_string _ _ _ _ _ hun, strEq_iff, ba_toList, ba_toList]
  | bool =>
    rw [hu] at h
    have hun := hL.under hu (by simp)
    cases x <;> first | (cases h; done) | skip
    cases y <;> first | (cases h; done) | skip
    rename_i a b
    have h' : some (bif a then b else !b) = some r := h
    simp only [Option.some.injEq] at h'; subst h'
    rw [hx.bool_inv, hy.bool_inv, run_equalIn_bool' _ _ _ _ _ hun]
    cases a <;> cases b <;> rfl
  | _ => rw [hu] at h; cases x <;> cases y <;> cases h

theorem flats_cons {f : Field} {fs : List Field} (h : flats T (f :: fs) = true) :
    (∃ k, kindOf T f.type = some k) ∧ f.name ≠ "_" ∧ (eqF T f.type).flat = true ∧ flats T fs = true := by
  simp only [flats, Bool.and_eq_true] at h
  refine ⟨Option.isSome_iff_exists.1 h.1.1.1, by simpa using h.1.1.2, h.1.2, h.2⟩

theorem equals_run (hL : Link P T E) {avz bs : List AV} {xs ys : Array Value} (ha : avz.length = xs.size) (hb : bs.length = ys.size)
    (hra : ∀ j x, avz[j]? = some x → VR g w x (xs.getD j undef)) (hrb : ∀ j x, bs[j]? = some x → VR g w x (ys.getD j undef)) (n : Nat) :
    ∀ (fs : List Field) (r : Bool) (w' : World), flats T fs = true →
      equals (fs.map fun f => (f.offset, (kindOf T f.type).getD none, eqF T f.type)) avz bs = some r →
      (Op.eqFields (n + 1) xs ys fs).run P w' = .ok r w' := by
  intro fs
  induction fs with
  | nil => intro r w' _ h; simp only [List.map_nil, equals, Option.some.injEq] at h; subst h; simp [Op.eqFields]
  | cons f fs ih =>
    intro r w' hf h
    obtain ⟨⟨k, hk⟩, hne, _, hf'⟩ := flats_cons hf
    simp only [List.map_cons, equals, hk, Option.getD_some] at h
    cases h1 : Det.partAt k avz f.offset with
    | none => rw [h1] at h; cases h
    | some x =>
      cases h2 : Det.partAt k bs f.offset with
      | none => rw [h1, h2] at h; cases h
      | some y =>
        rw [h1, h2] at h; simp only at h
        obtain ⟨u, e1, e2⟩ := part_run hL hk ha hra h1
        obtain ⟨s, e3, e4⟩ := part_run hL hk hb hrb h2
        cases he : eqFlat (eqF T f.type) x y with
        | none => rw [he] at h; cases h
        | some q =>
          have e5 := eqFlat_run hL e2 e4 he n w'
          simp only [Op.eqFields, hne, ne_eq, not_false_eq_true, if_true, Sem.run_bind, e1, e3, Result.andThen_ok, e5]
          rw [he] at h
          cases q with
          | true => simp only [Bool.not_true, Bool.false_eq_true, if_false]; exact ih r w' hf' h
          | false => simp only [Option.some.injEq] at h; subst h; simp

/-- no guard for structs of plain fields -/
theorem guardless (hL : Link P T E) : ∀ (fs : List Field) (n : Nat), flats T fs = true →
    (fs.any fun f => f.name != "_" && P.eqGuardType (n + 1) f.type) = false := by
  intro fs n
  induction fs with
  | nil => intro _; rfl
  | cons f fs ih =>
    intro h
    obtain ⟨_, _, hfl, hf'⟩ := flats_cons h
    rw [List.any_cons, ih hf', Bool.or_false, Bool.and_eq_false_iff]
    right
    unfold eqF at hfl
    cases hu : under T f.type with
    | int k => simp [Program.eqGuardType, hL.under hu (by simp)]
    | string => simp [Program.eqGuardType, hL.under hu (by simp)]
    | bool => simp [Program.eqGuardType, hL.under hu (by simp)]
    | _ => rw [hu] at hfl; cases hfl

theorem VR.nilp_inv {u : Value} (h : VR g w .nilp u) : u = .pointer none := by cases h; rfl
theorem VR.nilf_inv {u : Value} (h : VR g w .nilf u) : u = .nilFunc := by cases h; rfl
theorem VR.fn_inv {f : FuncId} {x y : List AV} {u : Value} (h : VR g w (.fn f x y) u) : ∃ x' y', u = .func (.func f) x' y' ∧ x.length = x'.size ∧ y.length = y'.size ∧
      (∀ k v, x[k]? = some v → VR g w v (x'.getD k undef)) ∧ (∀ k v, y[k]? = some v → VR g w v (y'.getD k undef)) := by
  cases h with | fn _ _ _ x' y' h1 h2 h3 h4 => exact ⟨x', y', rfl, h1, h2, h3, h4⟩
theorem VR.ptrs_inv {x : AV} {u : Value} (h : VR g w x u) (hx : (∃ i o, x = .ptr i o) ∨ (∃ i o, x = .rop i o)) : ∃ ad, u = .pointer (some ad) := by
  rcases hx with ⟨i, o, rfl⟩ | ⟨i, o, rfl⟩
  · obtain ⟨_, _, e⟩ := h.ptr_inv; exact ⟨_, e⟩
  · cases h; exact ⟨_, rfl⟩

/-- what `==` and `!=` come to -/
def EqRun (P : Program) (w : World) (t : TypeId) (x y : Operand) (u s : Value) (r : Bool) : Prop :=
  (do eqGuard .eql t x y u s; binOp .eql t u s : Sem Value).run P w = .ok (.bool r) w ∧
  (do eqGuard .neq t x y u s; binOp .neq t u s : Sem Value).run P w = .ok (.bool !r) w

theorem eq_of {t : TypeId} {x y : Operand} {u s : Value} {r : Bool} (hg : ∀ op, (eqGuard op t x y u s).run P w = .ok () w) (he : (Op.equalIn (9999 + 1) t u s).run P w = .ok r w)
    (h1 : binOp .eql t u s = (do pure (.bool (← Op.equal t u s)))) (h2 : binOp .neq t u s = (do pure (.bool (!(← Op.equal t u s))))) : EqRun P w t x y u s r := by
  have he' : (Op.equal t u s).run P w = .ok r w := he
  constructor
  · rw [h1]; simp [hg, he']
  · rw [h2]; simp [hg, he']

theorem run_eq_pn (n : Nat) {t e : TypeId} (h : P.underlying t = some (.pointer e)) (b : Option Addr) (w : World) :
    (Op.equalIn (n + 1) t (.pointer none) (.pointer b)).run P w = .ok b.isNone w := by simp [Op.equalIn, run_underlying h]
theorem run_eq_np (n : Nat) {t e : TypeId} (h : P.underlying t = some (.pointer e)) (b : Addr) (w : World) :
    (Op.equalIn (n + 1) t (.pointer (some b)) (.pointer none)).run P w = .ok false w := by simp [Op.equalIn, run_underlying h]
theorem run_eq_ii (n : Nat) {t : TypeId} {ms} (h : P.underlying t = some (.interface ms)) (w : World) :
    (Op.equalIn (n + 1) t .nilIface .nilIface).run P w = .ok true w := by simp [Op.equalIn, run_underlying h]
theorem run_eq_iv (n : Nat) {t : TypeId} {ms} (h : P.underlying t = some (.interface ms)) (d : TypeId) (v : Value) (w : World) :
    (Op.equalIn (n + 1) t .nilIface (.iface d v)).run P w = .ok false w := by simp [Op.equalIn, run_underlying h]
theorem run_eq_vi (n : Nat) {t : TypeId} {ms} (h : P.underlying t = some (.interface ms)) (d : TypeId) (v : Value) (w : World) :
    (Op.equalIn (n + 1) t (.iface d v) .nilIface).run P w = .ok false w := by simp [Op.equalIn, run_underlying h]
theorem run_eq_ff (n : Nat) {t : TypeId} {ps rs vr} (h : P.underlying t = some (.func ps rs vr)) (w : World) :
    (Op.equalIn (n + 1) t .nilFunc .nilFunc).run P w = .ok true w := by simp [Op.equalIn, run_underlying h]
theorem run_eq_fv (n : Nat) {t : TypeId} {ps rs vr} (h : P.underlying t = some (.func ps rs vr)) (f : Fn) (x y : Array Value) (w : World) :
    (Op.equalIn (n + 1) t .nilFunc (.func f x y)).run P w = .ok false w := by simp [Op.equalIn, run_underlying h]
theorem run_eq_vf (n : Nat) {t : TypeId} {ps rs vr} (h : P.underlying t = some (.func ps rs vr)) (f : Fn) (x y : Array Value) (w : World) :
    (Op.equalIn (n + 1) t (.func f x y) .nilFunc).run P w = .ok false w := by simp [Op.equalIn, run_underlying h]
theorem run_eq_sn (n : Nat) {t e : TypeId} (h : P.underlying t = some (.slice e)) (ad : Addr) (i j k m : Nat) (w : World) :
    (Op.equalIn (n + 1) t (.slice (some ad) i j) (.slice none k m)).run P w = .ok false w := by simp [Op.equalIn, run_underlying h]
theorem run_eq_nn (n : Nat) {t e : TypeId} (h : P.underlying t = some (.slice e)) (i j k m : Nat) (w : World) :
    (Op.equalIn (n + 1) t (.slice none i j) (.slice none k m)).run P w = .ok true w := by simp [Op.equalIn, run_underlying h]
theorem run_guard_ii (n : Nat) {t : TypeId} {ms} (h : P.underlying t = some (.interface ms)) (w : World) :
    (Op.eqGuardIn (n + 1) t .nilIface .nilIface).run P w = .ok (!ms.isEmpty) w := by simp [Op.eqGuardIn, run_underlying h]

theorem equal_run (hL : Link P T E) {t : TypeId} {x y : Operand} {p q : AV} {u s : Value} (hx : VR g w p u) (hy : VR g w q s) (hi : ∀ k, under T t ≠ .int k) (hs : under T t ≠ .string)
    (hnil : nilC y = true → ∃ n m, s = .slice none n m) (hlit : lit x = true ∨ lit y = true → (∃ c, x = .const c) ∨ (∃ c, y = .const c))
    {r : Bool} (h : equal (eqD T E t (lit x || lit y) (nilC y)) p q = some r) : EqRun P w t x y u s r := by
  unfold eqD at h
  cases hu : under T t with
  | int k => exact absurd hu (hi k)
  | string => exact absurd hu hs
  | bool =>
    rw [hu] at h
    have hun := hL.under hu (by simp)
    have h' : eqFlat .bool p q = some r := h
    have h2 : eqFlat (eqF T t) p q = some r := by unfold eqF; rw [hu]; exact h'
    have hrun := eqFlat_run hL hx hy h2 9999 w
    cases p <;> first | (cases h'; done) | skip
    cases q <;> first | (cases h'; done) | skip
    have e1 := hx.bool_inv
    have e2 := hy.bool_inv
    subst e1; subst e2
    exact eq_of (fun op => by rw [eqGuard_at_bool]; rfl) hrun rfl rfl
  | pointer e =>
    rw [hu] at h
    have hun := hL.under hu (by simp)
    have h' : eqPtr p q = some r := h
    have nn : ∀ {s' : Value}, u = .pointer none → ((r = true ∧ s = .pointer none) ∨ (r = false ∧ ∃ ad, s = .pointer (some ad))) → EqRun P w t x y u s r := by
      rintro _ rfl hh
      refine eq_of (fun op => by rw [eqGuard_at_pointer]; rfl) ?_ (by rcases hh with ⟨_, rfl⟩ | ⟨_, ad, rfl⟩ <;> rfl) (by rcases hh with ⟨_, rfl⟩ | ⟨_, ad, rfl⟩ <;> rfl)
      rcases hh with ⟨rfl, rfl⟩ | ⟨rfl, ad, rfl⟩
      · exact run_eq_pn 9999 hun none w
      · exact run_eq_pn 9999 hun (some ad) w
    have nn2 : (∃ ad, u = .pointer (some ad)) → s = .pointer none → r = false → EqRun P w t x y u s r := by
      rintro ⟨ad, rfl⟩ rfl rfl
      exact eq_of (fun op => by rw [eqGuard_at_pointer]; rfl) (run_eq_np 9999 hun ad w) rfl rfl
    cases p <;> cases q <;> first
      | (cases h'; done)
      | (simp only [eqPtr, Option.some.injEq] at h'; subst h'; exact nn (s' := s) hx.nilp_inv (.inl ⟨rfl, hy.nilp_inv⟩))
      | (simp only [eqPtr, Option.some.injEq] at h'; subst h'; exact nn (s' := s) hx.nilp_inv (.inr ⟨rfl, hy.ptrs_inv (by first | exact .inl ⟨_, _, rfl⟩ | exact .inr ⟨_, _, rfl⟩)⟩))
      | (simp only [eqPtr, Option.some.injEq] at h'; subst h'; exact nn2 (hx.ptrs_inv (by first | exact .inl ⟨_, _, rfl⟩ | exact .inr ⟨_, _, rfl⟩)) hy.nilp_inv rfl)
  | interface ms =>
    rw [hu] at h
    have hun := hL.under hu (by simp)
    have h' : eqIface ((lit x || lit y) || ms.isEmpty) p q = some r := h
    cases p <;> cases q <;> first
      | (cases h'; done)
      | skip
    · rename_i t1 v1
      simp only [eqIface, Option.some.injEq] at h'; subst h'
      obtain ⟨v', rfl, _⟩ := hx.iface_inv
      rw [hy.nili_inv]
      exact eq_of (fun op => by rw [eqGuard_at_iface]; rfl) (run_eq_vi 9999 hun _ _ w) rfl rfl
    · rename_i t1 v1
      simp only [eqIface, Option.some.injEq] at h'; subst h'
      obtain ⟨v', rfl, _⟩ := hy.iface_inv
      rw [hx.nili_inv]
      exact eq_of (fun op => by rw [eqGuard_nil_iface]; rfl) (run_eq_iv 9999 hun _ _ w) rfl rfl
    · cases hb : (lit x || lit y) || ms.isEmpty with
      | false => rw [hb] at h'; cases h'
      | true =>
        rw [hb] at h'; simp only [eqIface, cond_true, Option.some.injEq] at h'; subst h'
        rw [hx.nili_inv, hy.nili_inv]
        refine eq_of (fun op => ?_) (run_eq_ii 9999 hun w) rfl rfl
        simp only [Bool.or_eq_true] at hb
        rcases hb with hb | hb
        · rcases hlit hb with ⟨c, rfl⟩ | ⟨c, rfl⟩
          · rw [eqGuard_nil_constL]; rfl
          · rw [eqGuard_nil_constR]; rfl
        · have hms := run_guard_ii 9999 hun w
          rw [hb] at hms
          have hms' : (Op.eqGuardIn Op.maxDepth t .nilIface .nilIface).run P w = .ok false w := hms
          unfold eqGuard
          cases op <;> simp [hms']
  | func ps rs vr =>
    rw [hu] at h
    have hun := hL.under hu (by simp)
    have h' : eqNilf p q = some r := h
    cases p <;> cases q <;> first
      | (cases h'; done)
      | skip
    · simp only [eqNilf, Option.some.injEq] at h'; subst h'
      obtain ⟨x', y', rfl, _⟩ := hx.fn_inv
      rw [hy.nilf_inv]
      exact eq_of (fun op => by rw [eqGuard_at_func]; rfl) (run_eq_vf 9999 hun _ _ _ w) rfl rfl
    · simp only [eqNilf, Option.some.injEq] at h'; subst h'
      obtain ⟨x', y', rfl, _⟩ := hy.fn_inv
      rw [hx.nilf_inv]
      exact eq_of (fun op => by rw [eqGuard_at_nilFunc]; rfl) (run_eq_fv 9999 hun _ _ _ w) rfl rfl
    · simp only [eqNilf, Option.some.injEq] at h'; subst h'
      rw [hx.nilf_inv, hy.nilf_inv]
      exact eq_of (fun op => by rw [eqGuard_at_nilFunc]; rfl) (run_eq_ff 9999 hun w) rfl rfl
  | slice e =>
    rw [hu] at h
    have hun := hL.under hu (by simp)
    cases hn : nilC y with
    | false => rw [hn] at h; cases p <;> cases q <;> cases h
    | true =>
      rw [hn] at h
      obtain ⟨n, m, rfl⟩ := hnil hn
      have h' : eqNilsl p q = some r := h
      have key : r = false → (∃ ad n m, u = .slice (some ad) n m) → EqRun P w t x y u (.slice none n m) r := by
        rintro rfl ⟨ad, n', m', rfl⟩
        exact eq_of (fun op => by rw [eqGuard_at_slice]; rfl) (run_eq_sn 9999 hun _ _ _ _ _ w) rfl rfl
      unfold eqNilsl at h'
      split at h'
      · simp only [Option.some.injEq] at h'; subst h'
        cases hx with
        | nils => exact eq_of (fun op => by rw [eqGuard_at_slice]; rfl) (run_eq_nn 9999 hun _ _ _ _ w) rfl rfl
      · simp only [Option.some.injEq] at h'; subst h'
        obtain ⟨ad, cap, rfl, _⟩ := hx.sl_inv
        exact key rfl ⟨_, _, _, rfl⟩
      · simp only [Option.some.injEq] at h'; subst h'
        obtain ⟨L, ad, cap, _, _, rfl, h4⟩ := hx.arr_inv
        exact key rfl ⟨_, _, _, rfl⟩
      · cases h'
  | struct fs =>
    rw [hu] at h
    have hun := hL.under hu (by simp)
    simp only at h
    cases hb : mem t E && flats T fs.toList with
    | false => rw [hb] at h; cases p <;> cases q <;> cases h
    | true =>
      rw [hb] at h; simp only [cond_true] at h
      simp only [Bool.and_eq_true] at hb
      have h' : eqAgg (fs.toList.map fun f => (f.offset, (kindOf T f.type).getD none, eqF T f.type)) p q = some r := h
      cases p <;> first | (cases h'; done) | skip
      cases q <;> first | (cases h'; done) | skip
      rename_i avz bs
      obtain ⟨xs, rfl, a1, a2⟩ := hx.agg_inv
      obtain ⟨ys, rfl, b1, b2⟩ := hy.agg_inv
      have h2 : equals (fs.toList.map fun f => (f.offset, (kindOf T f.type).getD none, eqF T f.type)) avz bs = some r := h'
      have e1 := equals_run (P := P) hL a1 b1 a2 b2 9998 fs.toList r w hb.2 h2
      have hfo : P.fieldsOf t = fs := by simp [Program.fieldsOf, hun]
      have hgt : P.eqGuardType P.depth t = false := by
        have hd : P.depth = (2 * (P.types.size + Made.depth)) + 1 + 1 := rfl
        rw [hd]
        unfold Program.eqGuardType
        rw [hun]
        simp only
        rw [← Array.any_toList]
        exact guardless hL fs.toList _ hb.2
      refine eq_of (fun op => run_eqGuard_agg w op t x y xs ys hgt) ?_ rfl rfl
      rw [run_equalIn_struct w 9999 t xs ys (by rw [hfo]; exact hun) (hL.held t hb.1), hfo]
      exact e1
  | _ => rw [hu] at h; cases p <;> cases q <;> cases h

theorem sim_eq {op : BinOp} {t ty : TypeId} {x y : Operand} {neg : Bool} (hL : Link P T E) (hop : op = if neg then .neq else .eql) (hi : ∀ k, under T t ≠ .int k) (hs : under T t ≠ .string)
    (ho : o.op = .binOp op t x y ty) (hc : c2 GC (.eq (eqD T E t (lit x || lit y) (nilC y)) neg) x y = some (d, l)) (hv : opvs tm l = some vs)
    (hW : WR GC B0 g hp c w) (hT : TM g w tm a) (hr : opRun d vs hp c = some (v, hp', c')) : Val P g w a o hp hp' c c' v := by
  obtain ⟨rfl, p, q, rfl, hx, hy⟩ := c2_inv hc hv hW hT
  have hr' : (match equal (eqD T E t (lit x || lit y) (nilC y)) p q with | some v => ok (.bool (bif neg then !v else v)) hp c | none => none) = some (v, hp', c') := hr
  cases he : equal (eqD T E t (lit x || lit y) (nilC y)) p q with
  | none => rw [he] at hr'; cases hr'
  | some r =>
    rw [he] at hr'
    obtain ⟨rfl, rfl, rfl⟩ := ok_inv hr'
    have hrun := equal_run (P := P) (x := x) (y := y) hL hx hy hi hs
      (fun h => by
        cases y with
        | const cv => cases cv <;> first | (cases h; done) | skip
                      rename_i ad n m
                      cases ad with
                      | none => exact ⟨n, m, rfl⟩
                      | some _ => cases h
        | _ => cases h)
      (fun h => by
        rcases h with h | h
        · cases x <;> first | (cases h; done) | exact .inl ⟨_, rfl⟩
        · cases y <;> first | (cases h; done) | exact .inr ⟨_, rfl⟩) he
    subst hop
    cases neg with
    | false =>
      refine ⟨rfl, rfl, .bool r, ?_, .bool _⟩
      have := hrun.1
      simp only [Bool.false_eq_true, if_false] at ho
      simp only [execOp, ho, Sem.run_bind] at this ⊢
      rw [this]; rfl
    | true =>
      refine ⟨rfl, rfl, .bool (!r), ?_, .bool _⟩
      have := hrun.2
      simp only [if_true] at ho
      simp only [execOp, ho, Sem.run_bind] at this ⊢
      rw [this]; rfl
end
end Det
namespace Det
open Go

section
variable {P : Program} {T : PT TypeInfo} {E : List Nat} {GC : GT} {B0 : Nat} {g : Gh} {hp hp' : PT HO} {c c' : Nat} {w : World} {tm : PT AV} {a : Act}
variable {o : Oper} {d : DOp} {l : List Opd} {vs : List AV} {v : AV} {fz : Bool}

-- ------------------------------------------------------------------ strings out of cells

theorem bytesOf_ints : ∀ (cs : List AV) (s : List UInt8), bytesOf cs = some s → ∃ ns : List Int, cs = ns.map (AV.int .u8) ∧ s = ns.map fun n => UInt8.ofNat n.toNat
  | [], s, h => by simp only [bytesOf, Option.some.injEq] at h; subst h; exact ⟨[], rfl, rfl⟩
  | x :: cs, s, h => by
    unfold bytesOf at h
    split at h
    · rename_i e; cases e
    · rename_i n r e
      simp only [List.cons.injEq] at e
      obtain ⟨rfl, rfl⟩ := e
      cases hb : bytesOf cs with
      | none => rw [hb] at h; cases h
      | some q =>
        rw [hb] at h; simp only [Option.some.injEq] at h; subst h
        obtain ⟨ns, e1, e2⟩ := bytesOf_ints cs q hb
        exact ⟨n :: ns, by rw [e1]; rfl, by rw [e2]; rfl⟩
    · cases h

theorem push_fold : ∀ (ns : List Int) (s : ByteArray), (ns.foldl (fun r n => r.push (UInt8.ofNat n.toNat)) s).data.toList = s.data.toList ++ ns.map fun n => UInt8.ofNat n.toNat
  | [], s => by simp
  | n :: ns, s => by rw [List.foldl_cons, push_fold ns]; simp [ByteArray.data_push]

theorem loaded_ints {b o' : Nat} {k : IntKind} {ns : List Int} (h : Cells g w b o' (ns.map (AV.int k))) :
    (loadCells ⟨b, o', none⟩ ns.length).run P w = .ok (ns.map (Value.int k)).toArray w := by
  obtain ⟨xs, e1, e2, e3⟩ := h.load (P := P)
  rw [List.length_map] at e1 e2
  rw [e2]
  congr 1
  apply Array.ext
  · simp [e1]
  · intro i h1 h2
    have hi : i < ns.length := by omega
    have := e3 i (.int k ns[i]) (by simp [hi])
    have e4 := this.int_inv
    rw [Array.getD_eq_getD_getElem?, Array.getElem?_eq_getElem h1] at e4
    simpa using e4

/-- the cells of a slice of bytes or runes, loaded -/
theorem elems_loaded (hW : WR GC B0 g hp c w) {x : AV} {u : Value} (hv : VR g w x u) (hx : ∀ s, x ≠ .str s) {k : IntKind} {ns : List Int} (h : elemCells none hp x = some (ns.map (AV.int k))) :
    ∃ ad len cap, u = .slice ad len cap ∧ ((ad = none ∧ ns = []) ∨ ∃ ad', ad = some ad' ∧ (loadCells ad' len).run P w = .ok (ns.map (Value.int k)).toArray w) := by
  rcases elemCells_inv hW hv h with ⟨s, _, e, _⟩ | ⟨ad, len, cap, rfl, hl, hlen, hcs⟩
  · exact absurd e (hx _)
  · refine ⟨ad, len, cap, rfl, ?_⟩
    simp only [ksz, Nat.mul_one, List.length_map] at hlen
    rcases hcs with hcs | ⟨b, o', rfl, hc⟩
    · have : ns = [] := by simpa using hcs
      subst this
      simp only [List.length_nil] at hlen
      subst hlen
      cases ad with
      | none => exact .inl ⟨rfl, rfl⟩
      | some ad => exact .inr ⟨ad, rfl, by simp [loadCells, loadCellsFrom]⟩
    · exact .inr ⟨_, rfl, by rw [← hlen]; exact loaded_ints hc⟩

theorem sim_bytesStr {s t e : TypeId} {x : Operand} (hL : Link P T E) (h1 : under T s = .slice e) (h2 : under T t = .string) (h3 : under T e = .int .u8)
    (ho : o.op = .convert s t x) (hc : c1 GC .bytesStr x = some (d, l)) (hv : opvs tm l = some vs)
    (hW : WR GC B0 g hp c w) (hT : TM g w tm a) (hr : opRun d vs hp c = some (v, hp', c')) : Val P g w a o hp hp' c c' v := by
  obtain ⟨rfl, u, rfl, hu⟩ := c1_inv hc hv hW hT
  have u1 := hL.under h1 (by simp)
  have u2 := hL.under h2 (by simp)
  have u3 := hL.under h3 (by simp)
  have hx : ∀ s, u ≠ .str s := fun s e => by subst e; cases hr
  have hr' : (match elemCells none hp u with
    | some cs => (match bytesOf cs with | some s => ok (.str s) hp c | none => none)
    | none => none) = some (v, hp', c') := by
    cases u <;> first | exact hr | exact absurd rfl (hx _)
  cases hec : elemCells none hp u with
  | none => rw [hec] at hr'; cases hr'
  | some cs =>
    rw [hec] at hr'; simp only at hr'
    cases hb : bytesOf cs with
    | none => rw [hb] at hr'; cases hr'
    | some q =>
      rw [hb] at hr'
      obtain ⟨rfl, rfl, rfl⟩ := ok_inv hr'
      obtain ⟨ns, rfl, rfl⟩ := bytesOf_ints cs q hb
      obtain ⟨ad, len, cap, e1, h⟩ := elems_loaded (P := P) hW hu hx hec
      rcases h with ⟨rfl, rfl⟩ | ⟨ad', rfl, h⟩
      · refine ⟨rfl, rfl, .string .empty, ?_, .str _ _ rfl⟩
        simp [execOp, ho, e1, run_convert_bytes_string w s t e none len cap u1 u3 u2, Conv.bytesToString]
      · refine ⟨rfl, rfl, .string (ns.foldl (fun r n => r.push (UInt8.ofNat n.toNat)) .empty), ?_, .str _ _ (push_fold ns .empty)⟩
        simp only [execOp, ho, e1, Sem.run_bind, run_convert_bytes_string w s t e (some ad') len cap u1 u3 u2, run_bytesToString w ad' len cap ns h, Result.andThen_ok]
        rfl

theorem runesOf_ints : ∀ (cs : List AV) (s : List UInt8), runesOf cs = some s → ∃ ns : List Int, cs = ns.map (AV.int .i32) ∧ s = (ns.map fun n => (Utf8.encode n).data.toList).flatten
  | [], s, h => by simp only [runesOf, Option.some.injEq] at h; subst h; exact ⟨[], rfl, rfl⟩
  | x :: cs, s, h => by
    unfold runesOf at h
    split at h
    · rename_i e; cases e
    · rename_i n r e
      simp only [List.cons.injEq] at e
      obtain ⟨rfl, rfl⟩ := e
      cases hb : runesOf cs with
      | none => rw [hb] at h; cases h
      | some q =>
        rw [hb] at h; simp only [Option.some.injEq] at h; subst h
        obtain ⟨ns, e1, e2⟩ := runesOf_ints cs q hb
        exact ⟨n :: ns, by rw [e1]; rfl, by rw [e2]; rfl⟩
    · cases h

theorem run_forIn_runes (f : Value → ByteArray → Sem (ForInStep ByteArray))
    (hf : ∀ (n : Int) (r : ByteArray), (f (.int .i32 n) r).run P w = .ok (.yield (r ++ Utf8.encode n)) w) :
    ∀ (ns : List Int) (s : ByteArray), (forIn (ns.map (Value.int .i32)) s f).run P w = .ok (ns.foldl (fun r n => r ++ Utf8.encode n) s) w := by
  intro ns
  induction ns with
  | nil => intro s; simp [Sem.run_pure]
  | cons n ns ih =>
    intro s
    simp only [List.map_cons, List.forIn_cons, Sem.run_bind, hf, Result.andThen, List.foldl_cons]
    exact ih _
theorem run_runesToString (ad : Addr) (len cap : Nat) (ns : List Int)
    (h : (loadCells ad len).run P w = .ok (ns.map (Value.int .i32)).toArray w) :
    (Conv.runesToString (.slice (some ad) len cap)).run P w = .ok (.string (ns.foldl (fun r n => r ++ Utf8.encode n) ByteArray.empty)) w := by
  unfold Conv.runesToString
  simp only [Sem.run_bind, h, Result.andThen, List.forIn_toArray]
  rw [run_forIn_runes _ (by intro n r; simp [Sem.run_pure])]
  simp [Sem.run_pure]
theorem encode_fold : ∀ (ns : List Int) (s : ByteArray), (ns.foldl (fun r n => r ++ Utf8.encode n) s).data.toList = s.data.toList ++ (ns.map fun n => (Utf8.encode n).data.toList).flatten
  | [], s => by simp
  | n :: ns, s => by rw [List.foldl_cons, encode_fold ns]; simp

theorem sim_runesStr {s t e : TypeId} {x : Operand} (hL : Link P T E) (h1 : under T s = .slice e) (h2 : under T t = .string) (h3 : under T e = .int .i32)
    (ho : o.op = .convert s t x) (hc : c1 GC .runesStr x = some (d, l)) (hv : opvs tm l = some vs)
    (hW : WR GC B0 g hp c w) (hT : TM g w tm a) (hr : opRun d vs hp c = some (v, hp', c')) : Val P g w a o hp hp' c c' v := by
  obtain ⟨rfl, u, rfl, hu⟩ := c1_inv hc hv hW hT
  have u1 := hL.under h1 (by simp)
  have u2 := hL.under h2 (by simp)
  have u3 := hL.under h3 (by simp)
  have hx : ∀ s, u ≠ .str s := fun s e => by subst e; cases hr
  have hr' : (match elemCells none hp u with
    | some cs => (match runesOf cs with | some s => ok (.str s) hp c | none => none)
    | none => none) = some (v, hp', c') := by
    cases u <;> first | exact hr | exact absurd rfl (hx _)
  have conv : ∀ ad len cap, (convert s t (.slice ad len cap)).run P w = (Conv.runesToString (.slice ad len cap)).run P w := fun ad len cap => by
    simp [convert, run_underlying u1, run_underlying u2, run_underlying u3]
  cases hec : elemCells none hp u with
  | none => rw [hec] at hr'; cases hr'
  | some cs =>
    rw [hec] at hr'; simp only at hr'
    cases hb : runesOf cs with
    | none => rw [hb] at hr'; cases hr'
    | some q =>
      rw [hb] at hr'
      obtain ⟨rfl, rfl, rfl⟩ := ok_inv hr'
      obtain ⟨ns, rfl, rfl⟩ := runesOf_ints cs q hb
      obtain ⟨ad, len, cap, e1, h⟩ := elems_loaded (P := P) hW hu hx hec
      rcases h with ⟨rfl, rfl⟩ | ⟨ad', rfl, h⟩
      · refine ⟨rfl, rfl, .string .empty, ?_, .str _ _ rfl⟩
        simp [execOp, ho, e1, conv, Conv.runesToString]
      · refine ⟨rfl, rfl, .string (ns.foldl (fun r n => r ++ Utf8.encode n) .empty), ?_, .str _ _ (encode_fold ns .empty)⟩
        simp only [execOp, ho, e1, Sem.run_bind, conv, run_runesToString ad' len cap ns h, Result.andThen_ok]
        rfl

-- ------------------------------------------------------------------ literals

/-- cells, as a list of them says -/
def CV (g : Gh) (w : World) (cs : List AV) (xs : Array Value) : Prop := cs.length = xs.size ∧ ∀ k x, cs[k]? = some x → VR g w x (xs.getD k undef)

theorem fold_set (off : Nat) : ∀ (q : List Value) (i : Nat) (xs : Array Value), off + i + q.length ≤ xs.size →
    ((q.zipIdx i).foldl (fun cs (p : Value × Nat) => cs.setIfInBounds (off + p.2) p.1) xs).size = xs.size ∧
    ∀ k, ((q.zipIdx i).foldl (fun cs (p : Value × Nat) => cs.setIfInBounds (off + p.2) p.1) xs)[k]? = if off + i ≤ k ∧ k < off + i + q.length then q[k - (off + i)]? else xs[k]?
  | [], i, xs, h => by
    simp only [List.zipIdx_nil, List.foldl_nil, List.length_nil]
    refine ⟨trivial, fun k => by rw [if_neg (by omega)]⟩
  | v :: q, i, xs, h => by
    simp only [List.length_cons] at h
    have ih := fold_set off q (i + 1) (xs.setIfInBounds (off + i) v) (by simp; omega)
    simp only [List.zipIdx_cons, List.foldl_cons]
    refine ⟨by rw [ih.1]; simp, fun k => ?_⟩
    rw [ih.2 k]
    simp only [List.length_cons]
    by_cases h1 : off + (i + 1) ≤ k ∧ k < off + (i + 1) + q.length
    · rw [if_pos h1, if_pos (by omega)]
      rw [show k - (off + i) = (k - (off + (i + 1))) + 1 by omega, List.getElem?_cons_succ]
    · rw [if_neg h1]
      by_cases h2 : k = off + i
      · subst h2
        rw [if_pos (by omega), Nat.sub_self, List.getElem?_cons_zero, Array.getElem?_setIfInBounds_self_of_lt (by omega)]
      · rw [if_neg (by omega), Array.getElem?_setIfInBounds_ne (Ne.symm h2)]

/-- the parts, as the model is given them -/
def PR (g : Gh) (w : World) (place : Nat → Option (Nat × Nat)) : List (Nat × Nat × AV) → List (Nat × Value) → Prop
  | [], [] => True
  | (off, size, x) :: r, (i, u) :: r' => place i = some (off, size) ∧ VR g w x u ∧ PR g w place r r'
  | _, _ => False

theorem fill_run {place : Nat → Option (Nat × Nat)} : ∀ (ps : List (Nat × Nat × AV)) (us : List (Nat × Value)) (cs : List AV) (xs : Array Value) (r : List AV),
    PR g w place ps us → CV g w cs xs → fill cs ps = some r → ∃ ys, Instr.fill place xs us = some ys ∧ CV g w r ys
  | [], [], cs, xs, r, _, hc, h => by
    have h' : some cs = some r := by cases cs <;> exact h
    simp only [Option.some.injEq] at h'; subst h'
    exact ⟨xs, rfl, hc⟩
  | (off, size, x) :: ps, (i, u) :: us, cs, xs, r, hp, hc, h => by
    obtain ⟨h1, h2, h3⟩ := hp
    have h' : (bif Nat.beq x.cells.length size && !Nat.beq size 0 then (match splice cs off x.cells with
      | some cs => fill cs ps | none => none) else none) = some r := by cases cs <;> exact h
    cases hb : Nat.beq x.cells.length size && !Nat.beq size 0 with
    | false => rw [hb] at h'; cases h'
    | true =>
      rw [hb] at h'; simp only [cond_true] at h'
      simp only [Bool.and_eq_true, Bool.not_eq_true'] at hb
      have hs := Nat.eq_of_beq_eq_true hb.1
      have hz : size ≠ 0 := fun e => by rw [e] at hb; exact absurd hb.2 (by simp)
      cases hsp : splice cs off x.cells with
      | none => rw [hsp] at h'; cases h'
      | some cs' =>
        rw [hsp] at h'; simp only at h'
        obtain ⟨k1, k2⟩ := splice_eq cs off x.cells cs' hsp (.inl (fun e => by rw [e] at hs; simp at hs; omega))
        have k3 := splice_len cs off x.cells cs' hsp
        have k4 := (splice_get cs off x.cells cs' hsp).2
        obtain ⟨c1, c2⟩ := h2.cells
        have hus : u.cells.size = size := by rw [← c1, hs]
        obtain ⟨f1, f2⟩ := fold_set off u.cells.toList 0 xs (by have := hc.1; simp; omega)
        have hfold : u.cells.zipIdx.foldl (fun cs (p : Value × Nat) => cs.setIfInBounds (off + p.2) p.1) xs =
            ((u.cells.toList.zipIdx 0).foldl (fun cs (p : Value × Nat) => cs.setIfInBounds (off + p.2) p.1) xs) := by
          rw [← Array.foldl_toList, Array.toList_zipIdx]
        have hnew : CV g w cs' (u.cells.zipIdx.foldl (fun cs (p : Value × Nat) => cs.setIfInBounds (off + p.2) p.1) xs) := by
          rw [hfold]
          refine ⟨by rw [f1, k3]; exact hc.1, fun k y e => ?_⟩
          rw [k4 k] at e
          rw [Array.getD_eq_getD_getElem?, f2 k]
          simp only [Nat.add_zero, Array.length_toList]
          by_cases hk : off ≤ k ∧ k < off + x.cells.length
          · rw [if_pos hk] at e
            rw [if_pos (by omega)]
            have := c2 _ _ e
            rw [Array.getD_eq_getD_getElem?] at this
            simpa using this
          · rw [if_neg hk] at e
            rw [if_neg (by omega)]
            have := hc.2 k y e
            rw [Array.getD_eq_getD_getElem?] at this
            exact this
        obtain ⟨ys, e1, e2⟩ := fill_run ps us cs' _ r h3 hnew h'
        refine ⟨ys, ?_, e2⟩
        simp only [Instr.fill, h1]
        rw [if_neg (by have := hc.1; simp [hus]; omega)]
        exact e1
  | [], _ :: _, _, _, _, hp, _, _ => hp.elim
  | _ :: _, [], _, _, _, hp, _, _ => hp.elim

theorem zip3_PR {place : Nat → Option (Nat × Nat)} : ∀ (ps : List (Nat × Nat)) (vs : List AV) (zs : List (Nat × Nat × AV)) (is : List Nat) (us : List Value),
    zip3 ps vs = some zs → is.map place = ps.map some → VRs g w vs us → PR g w place zs (is.zip us)
  | [], [], zs, is, us, h, hi, hv => by
    simp only [zip3, Option.some.injEq] at h; subst h
    cases is with
    | nil => exact trivial
    | cons _ _ => simp at hi
  | (x, y) :: ps, v :: vs, zs, is, us, h, hi, hv => by
    simp only [zip3] at h
    cases h1 : zip3 ps vs with
    | none => rw [h1] at h; cases h
    | some q =>
      rw [h1] at h; simp only [Option.some.injEq] at h; subst h
      cases is with
      | nil => simp at hi
      | cons i is =>
        simp only [List.map_cons, List.cons.injEq] at hi
        cases us with
        | nil => exact hv.elim
        | cons u us => exact ⟨hi.1, hv.1, zip3_PR ps vs q is us h1 hi.2 hv.2⟩
  | [], _ :: _, zs, is, us, h, hi, hv => by simp [zip3] at h
  | _ :: _, [], zs, is, us, h, hi, hv => by simp [zip3] at h

theorem rows_mapM (hL : Link P T E) : ∀ (fs : List Field), rows T fs = true → ∀ (acc : Array (Nat × Nat)) (w' : World),
    (fs.mapM fun f => do pure (f.offset, ← sizeOf f.type) : Sem (List (Nat × Nat))).run P w' = .ok (fs.map fun f => (f.offset, size T f.type)) w' := by
  intro fs
  induction fs with
  | nil => intro _ _ w'; simp
  | cons f fs ih =>
    intro h acc w'
    simp only [rows, Bool.and_eq_true] at h
    have h1 : (Go.sizeOf f.type).run P w' = .ok (size T f.type) w' := by
      obtain ⟨i, hi⟩ := Option.isSome_iff_exists.1 h.1
      rw [size_get hi]
      simp [Go.sizeOf, typeInfo, hL.info _ i hi]
    simp only [List.mapM_cons, Sem.run_bind, h1, Result.andThen_ok, Sem.run_pure, ih h.2 acc w', List.map_cons]

theorem places_map {fs : Array Field} : ∀ (is : List Nat) (ps : List (Nat × Nat)), places T fs is = some ps →
    is.map (fun i => (fs.map fun f => (f.offset, size T f.type))[i]?) = ps.map some
  | [], ps, h => by simp only [places, Option.some.injEq] at h; subst h; rfl
  | i :: is, ps, h => by
    simp only [places] at h
    cases h1 : fs[i]? with
    | none => rw [h1] at h; cases h
    | some f =>
      cases h2 : places T fs is with
      | none => rw [h1, h2] at h; cases h
      | some q =>
        rw [h1, h2] at h; simp only [Option.some.injEq] at h; subst h
        simp only [List.map_cons, places_map is q h2, List.cons.injEq, and_true]
        simp [h1]

theorem zcells_run (hL : Link P T E) {t : TypeId} {z : List AV} (h : zcells T t = some z) (g : Gh) (w : World) :
    ∃ zv, (∀ w', (zeroValue t).run P w' = .ok zv w') ∧ CV g w z zv.cells := by
  unfold zcells at h
  cases hz : zeroAV T t with
  | none => rw [hz] at h; cases h
  | some y =>
    rw [hz] at h; simp only [Option.some.injEq] at h; subst h
    obtain ⟨zv, h1, h2⟩ := hL.zero hz g w
    exact ⟨zv, h2, h1.cells⟩

theorem parts_eq (ps : Array (Nat × Operand)) (a : Act) : (ps.map fun (i, x) => (i, a.eval x)).toList = (ps.toList.map (·.1)).zip ((ps.toList.map (·.2)).map a.eval) := by
  rw [Array.toList_map]
  generalize ps.toList = l
  induction l with
  | nil => rfl
  | cons p l ih => simp only [List.map_cons, List.zip_cons_cons, ih]

theorem sim_build {t : TypeId} {ps : Array (Nat × Operand)} (hL : Link P T E) (ho : o.op = .build t ps) (hc : compOp GC T E fz (.build t ps) = some (d, l)) (hv : opvs tm l = some vs)
    (hW : WR GC B0 g hp c w) (hT : TM g w tm a) (hr : opRun d vs hp c = some (v, hp', c')) : Val P g w a o hp hp' c c' v := by
  simp only [compOp] at hc
  cases hz : zcells T t with
  | none => rw [hz] at hc; cases hc
  | some z =>
    rw [hz] at hc
    obtain ⟨zv, z1, z2⟩ := zcells_run (P := P) hL hz g w
    -- what both ways share
    have key : ∀ (pl : List (Nat × Nat)) (place : Nat → Option (Nat × Nat)), cs GC (.build z pl) (ps.toList.map (·.2)) = some (d, l) → (ps.toList.map (·.1)).map place = pl.map some →
        hp' = hp ∧ c' = c ∧ ∃ cs', v = .agg cs' ∧ ∃ ys, Instr.fill place zv.cells (ps.map fun (i, x) => (i, a.eval x)).toList = some ys ∧ CV g w cs' ys := by
      intro pl place hcs hpl
      obtain ⟨rfl, hvs⟩ := cs_inv hcs hv hW hT
      have hr' : (match zip3 pl vs with
        | some l => (match fill z l with | some cs => ok (.agg cs) hp c | none => none)
        | none => none) = some (v, hp', c') := hr
      cases hz3 : zip3 pl vs with
      | none => rw [hz3] at hr'; cases hr'
      | some q =>
        rw [hz3] at hr'; simp only at hr'
        cases hf : fill z q with
        | none => rw [hf] at hr'; cases hr'
        | some cs' =>
          rw [hf] at hr'
          obtain ⟨rfl, rfl, rfl⟩ := ok_inv hr'
          rw [parts_eq]
          obtain ⟨ys, e1, e2⟩ := fill_run q _ z zv.cells cs' (zip3_PR pl vs q _ _ hz3 hpl hvs) z2 hf
          exact ⟨rfl, rfl, cs', rfl, ys, e1, e2⟩
    cases hu : under T t with
    | struct fs =>
      rw [hu] at hc; simp only at hc
      have hun := hL.under hu (by simp)
      cases hrw : rows T fs.toList with
      | false => rw [hrw] at hc; cases hc
      | true =>
        rw [hrw] at hc; simp only [Bool.not_true, cond_false] at hc
        cases hpl : places T fs (ps.toList.map (·.1)) with
        | none => rw [hpl] at hc; cases hc
        | some pl =>
          rw [hpl] at hc; simp only at hc
          obtain ⟨e1, e2, cs', rfl, ys, e4, e5⟩ := key pl _ hc (places_map _ _ hpl)
          refine ⟨e1, e2, .agg ys, ?_, .agg _ _ e5.1 e5.2⟩
          have hm : (fs.mapM fun f => do pure (f.offset, ← sizeOf f.type) : Sem (Array (Nat × Nat))).run P w = .ok (fs.map fun f => (f.offset, size T f.type)) w := by
            rw [Array.mapM_eq_mapM_toList]
            have := rows_mapM hL fs.toList hrw #[] w
            simp only [Sem.run_map, this, Result.andThen_ok]
            congr 1
            apply Array.ext'
            simp
          simp only [execOp, ho, Instr.build, Sem.run_bind, z1, run_underlying hun, Result.andThen_ok, hm, e4]
          rfl
    | array n e =>
      rw [hu] at hc; simp only at hc
      have hun := hL.under hu (by simp)
      cases hk : kindOf T e with
      | none => rw [hk] at hc; cases hc
      | some k =>
        rw [hk] at hc; simp only at hc
        have hsz := (hL.kind hk w).2.2.2.2
        obtain ⟨e1, e2, cs', rfl, ys, e4, e5⟩ := key _ (fun i => some (i * ksz k, ksz k)) hc (by rw [List.map_map, List.map_map]; rfl)
        refine ⟨e1, e2, .agg ys, ?_, .agg _ _ e5.1 e5.2⟩
        simp only [execOp, ho, Instr.build, Sem.run_bind, z1, run_underlying hun, Result.andThen_ok, hsz, e4]
        rfl
    | _ => rw [hu] at hc; cases hc
end
end Det
namespace Det
open Go

section
variable {P : Program} {T : PT TypeInfo} {E : List Nat} {GC : GT} {B0 : Nat} {g : Gh} {hp hp' : PT HO} {c c' : Nat} {w : World} {tm : PT AV} {a : Act}
variable {o : Oper} {d : DOp} {l : List Opd} {vs : List AV} {v : AV} {fz : Bool}

/-- the operation is carried out: a value, a world, who owns what in it -/
def Sim (P : Program) (GC : GT) (B0 : Nat) (g : Gh) (w : World) (a : Act) (o : Oper) (hp' : PT HO) (c' : Nat) (v : AV) : Prop :=
  ∃ nx cv w' g', (execOp a.eval o).run P w = .ok nx w' ∧ (nx = .value cv ∨ (nx = .skip ∧ cv = undef)) ∧
    Ext B0 g w g' w' ∧ WR GC B0 g' hp' c' w' ∧ VR g' w' v cv

theorem Val.sim (hW : WR GC B0 g hp c w) (h : Val P g w a o hp hp' c c' v) : Sim P GC B0 g w a o hp' c' v := by
  obtain ⟨rfl, rfl, cv, h1, h2⟩ := h
  exact ⟨_, cv, w, g, h1, .inl rfl, Ext.refl .., hW, h2⟩

-- ------------------------------------------------------------------ a new block

def Gh.own (g : Gh) (b id : Nat) (L : Loc) : Gh where
  loc := fun i => if i = id then some L else g.loc i
  tag := fun x y => if x = b then .own id else g.tag x y
  res := g.res
def Gh.ro (g : Gh) (b : Nat) : Gh where
  loc := g.loc
  tag := fun x y => if x = b then .ro else g.tag x y
  res := g.res

/-- the world with one block more -/
structure More (w w' : World) (ob : Obj) : Prop where
  heap : w'.heap = w.heap.push ob
  os : w'.os = w.os
  output : w'.output = w.output

theorem More.old {w' : World} {ob : Obj} (h : More w w' ob) {k : Nat} (hk : k < w.heap.size) : w'.heap[k]? = w.heap[k]? := by
  rw [h.heap, Array.getElem?_push]
  rw [if_neg (by omega)]
theorem More.new {w' : World} {ob : Obj} (h : More w w' ob) : w'.heap[w.heap.size]? = some ob := by
  rw [h.heap, Array.getElem?_push, if_pos rfl]
theorem More.size {w' : World} {ob : Obj} (h : More w w' ob) : w'.heap.size = w.heap.size + 1 := by rw [h.heap]; simp

theorem cellAt_congr {w' : World} {b o : Nat} (h : w'.heap[b]? = w.heap[b]?) : cellAt w' b o = cellAt w b o := by
  simp only [cellAt, World.cell?, h]
theorem frozen_congr {w' : World} {b o : Nat} (h : w'.heap[b]? = w.heap[b]?) : w'.frozen? ⟨b, o, none⟩ = w.frozen? ⟨b, o, none⟩ := by
  simp only [World.frozen?, h]

theorem More.ext_own {w' : World} {ob : Obj} (hW : WR GC B0 g hp c w) (h : More w w' ob) (L : Loc) : Ext B0 g w (g.own w.heap.size c L) w' where
  loc := fun id L' e => by
    have := hW.fresh id L' e
    simp only [Gh.own]; rw [if_neg (by omega)]; exact e
  ro := fun b o' e => by
    have hb := hW.tagged b o' (by rw [e]; simp)
    simp only [Gh.own]
    rw [if_neg (by omega)]
    exact ⟨e, cellAt_congr (h.old hb)⟩
  base := fun k hk => h.old (by have := hW.base; omega)
  os := h.os
  output := h.output
  size := by rw [h.size]; omega
  res := fun _ => Iff.rfl
  low := fun b o' hb => by have := hW.base; simp only [Gh.own]; rw [if_neg (by omega)]

theorem More.ext_ro {w' : World} {ob : Obj} (hW : WR GC B0 g hp c w) (h : More w w' ob) : Ext B0 g w (g.ro w.heap.size) w' where
  loc := fun id L' e => e
  ro := fun b o' e => by
    have hb := hW.tagged b o' (by rw [e]; simp)
    simp only [Gh.ro]
    rw [if_neg (by omega)]
    exact ⟨e, cellAt_congr (h.old hb)⟩
  base := fun k hk => h.old (by have := hW.base; omega)
  os := h.os
  output := h.output
  size := by rw [h.size]; omega
  res := fun _ => Iff.rfl
  low := fun b o' hb => by have := hW.base; simp only [Gh.ro]; rw [if_neg (by omega)]

/-- what an object holds does not turn when other blocks do -/
theorem Own1.keep {g' : Gh} {w' : World} {id : Nat} {L : Loc} {x : Option HO} (h : Own1 g w id L x) (hS : Sub g w g' w')
    (htag : ∀ o, g.tag L.b o = .own id → g'.tag L.b o = .own id) (hb : w'.heap[L.b]? = w.heap[L.b]?) : Own1 g' w' id L x := by
  cases x with
  | none => trivial
  | some x =>
    cases x with
    | cells cs =>
      obtain ⟨h1, h2, h3, h4⟩ := h
      refine ⟨h1, h2, fun k hk => ?_, fun k y e => ?_⟩
      · obtain ⟨k1, ⟨cv, k2⟩, k3⟩ := h3 k hk
        exact ⟨htag _ k1, ⟨cv, by rw [cellAt_congr hb]; exact k2⟩, by rw [frozen_congr hb]; exact k3⟩
      · obtain ⟨cv, k1, k2⟩ := h4 k y e
        exact ⟨cv, by rw [cellAt_congr hb]; exact k1, k2.mono hS⟩
    | iter s pos =>
      obtain ⟨s', h1, h2, h3, h4⟩ := h
      exact ⟨s', by rw [hb]; exact h1, h2, htag _ h3, h4⟩
    | map es => exact h
    | dead => trivial

theorem More.own {w' : World} {ob : Obj} (hW : WR GC B0 g hp c w) (h : More w w' ob) (L : Loc) (hLb : L.b = w.heap.size) (x : HO)
    (hx : Own1 (g.own w.heap.size c L) w' c L (some x)) : WR GC B0 (g.own w.heap.size c L) (hp.set c x) (c + 1) w' where
  obj := fun id L' e => by
    by_cases hid : id = c
    · subst hid
      simp only [Gh.own, if_true, Option.some.injEq] at e
      subst e
      rw [PT.get_set_same]; exact hx
    · simp only [Gh.own, if_neg hid] at e
      rw [PT.get_set_ne _ _ hid]
      have hb := (hW.place id L' e).2
      refine (hW.obj id L' e).keep (h.ext_own hW L).sub (fun o' ht => ?_) (h.old hb)
      simp only [Gh.own]
      rw [if_neg (by omega)]
      exact ht
  fresh := fun id L' e => by
    by_cases hid : id = c
    · omega
    · simp only [Gh.own, if_neg hid] at e
      have := hW.fresh id L' e; omega
  tagged := fun b o' e => by
    rw [h.size]
    simp only [Gh.own] at e
    by_cases hb : b = w.heap.size
    · omega
    · rw [if_neg hb] at e
      have := hW.tagged b o' e; omega
  owned := fun b o' id e => by
    simp only [Gh.own] at e ⊢
    by_cases hb : b = w.heap.size
    · rw [if_pos hb] at e
      simp only [Tag.own.injEq] at e
      subst e
      exact ⟨L, by simp, by omega⟩
    · rw [if_neg hb] at e
      obtain ⟨L', k2, k3⟩ := hW.owned b o' id e
      have := hW.fresh id L' k2
      exact ⟨L', by rw [if_neg (by omega)]; exact k2, k3⟩
  place := fun id L' e => by
    rw [h.size]
    by_cases hid : id = c
    · subst hid
      simp only [Gh.own, if_true, Option.some.injEq] at e
      subst e
      have := hW.base; omega
    · simp only [Gh.own, if_neg hid] at e
      have := hW.place id L' e; omega
  uniq := fun id id' L1 L2 e1 e2 eb v1 v2 => by
    simp only [Gh.own] at e1 e2
    by_cases h1 : id = c
    · by_cases h2 : id' = c
      · omega
      · rw [if_pos h1] at e1; rw [if_neg h2] at e2
        simp only [Option.some.injEq] at e1; subst e1
        have := (hW.place id' L2 e2).2; omega
    · by_cases h2 : id' = c
      · rw [if_neg h1] at e1; rw [if_pos h2] at e2
        simp only [Option.some.injEq] at e2; subst e2
        have := (hW.place id L1 e1).2; omega
      · rw [if_neg h1] at e1; rw [if_neg h2] at e2
        rw [PT.get_set_ne _ _ h1] at v1
        rw [PT.get_set_ne _ _ h2] at v2
        exact hW.uniq id id' L1 L2 e1 e2 eb v1 v2
  base := by rw [h.size]; have := hW.base; omega
  kept := fun id e => by
    obtain ⟨h1, h2⟩ := hW.kept id e
    exact ⟨by simp only [Gh.own]; rw [if_neg (by omega)]; exact h1, by omega⟩
  glob := fun gi cs e => by
    obtain ⟨cv, hcv⟩ := hW.glob gi cs e
    refine ⟨cv, fun k x hk => ?_⟩
    obtain ⟨k1, k2, k3⟩ := hcv k x hk
    have := (h.ext_own hW L).ro _ _ k1
    exact ⟨this.1, by rw [this.2]; exact k2, k3.mono (h.ext_own hW L).sub⟩

theorem More.roWR {w' : World} {ob : Obj} (hW : WR GC B0 g hp c w) (h : More w w' ob) : WR GC B0 (g.ro w.heap.size) hp c w' where
  obj := fun id L' e => by
    have hb := (hW.place id L' e).2
    refine (hW.obj id L' e).keep (h.ext_ro hW).sub (fun o' ht => ?_) (h.old hb)
    simp only [Gh.ro]
    rw [if_neg (by omega)]
    exact ht
  fresh := hW.fresh
  tagged := fun b o' e => by
    rw [h.size]
    simp only [Gh.ro] at e
    by_cases hb : b = w.heap.size
    · omega
    · rw [if_neg hb] at e
      have := hW.tagged b o' e; omega
  owned := fun b o' id e => by
    simp only [Gh.ro] at e ⊢
    by_cases hb : b = w.heap.size
    · rw [if_pos hb] at e; cases e
    · rw [if_neg hb] at e; exact hW.owned b o' id e
  place := fun id L' e => by
    rw [h.size]
    have := hW.place id L' e; omega
  uniq := hW.uniq
  base := by rw [h.size]; have := hW.base; omega
  kept := hW.kept
  glob := fun gi cs e => by
    obtain ⟨cv, hcv⟩ := hW.glob gi cs e
    refine ⟨cv, fun k x hk => ?_⟩
    obtain ⟨k1, k2, k3⟩ := hcv k x hk
    have := (h.ext_ro hW).ro _ _ k1
    exact ⟨this.1, by rw [this.2]; exact k2, k3.mono (h.ext_ro hW).sub⟩

/-- a row of cells, laid anew -/
theorem newCells (hW : WR GC B0 g hp c w) {w' : World} {xs : Array Value} {t : TypeId} {fr : Nat × Nat} (hm : More w w' (.cells xs t fr)) (hfr : ∀ k, k < xs.size → ¬ (fr.1 ≤ k ∧ k < fr.2))
    {cs : List AV} (hn : cs.length ≤ xs.size) (hcs : ∀ k x, cs[k]? = some x → VR g w x (xs.getD k undef)) :
    ∃ g' L, Ext B0 g w g' w' ∧ WR GC B0 g' (hp.set c (.cells cs)) (c + 1) w' ∧ g'.loc c = some L ∧ L = ⟨w.heap.size, 0, cs.length, xs.size⟩ := by
  refine ⟨g.own w.heap.size c ⟨w.heap.size, 0, cs.length, xs.size⟩, _, hm.ext_own hW _, hm.own hW _ rfl _ ?_, by simp [Gh.own], rfl⟩
  have hcell : ∀ k, cellAt w' w.heap.size k = xs[k]? := fun k => by simp [cellAt, World.cell?, hm.new]
  refine ⟨rfl, hn, fun k hk => ?_, fun k x e => ?_⟩
  · simp only [Nat.zero_add]
    refine ⟨by simp [Gh.own], ⟨xs[k], by rw [hcell]; simp [show k < xs.size from hk]⟩, ?_⟩
    simp only [World.frozen?, hm.new]
    have := hfr k hk
    obtain ⟨lo, hi⟩ := fr
    simp only [Bool.and_eq_false_iff, decide_eq_false_iff_not]
    simp only at this
    omega
  · have hk : k < xs.size := by have := (List.getElem?_eq_some_iff.1 e).1; omega
    simp only [Nat.zero_add]
    refine ⟨xs[k], by rw [hcell]; simp [hk], ?_⟩
    have := hcs k x e
    rw [Array.getD_eq_getD_getElem?, Array.getElem?_eq_getElem hk] at this
    exact VR.mono (hm.ext_own hW _).sub this

-- ------------------------------------------------------------------ writing

/-- cells of one block were overwritten -/
structure Wrote (w w' : World) (b o : Nat) (us : List Value) : Prop where
  size : w'.heap.size = w.heap.size
  os : w'.os = w.os
  output : w'.output = w.output
  other : ∀ k, k ≠ b → w'.heap[k]? = w.heap[k]?
  frozen : ∀ ad, w'.frozen? ad = w.frozen? ad
  cell : ∀ k, cellAt w' b k = if o ≤ k ∧ k < o + us.length then us[k - o]? else cellAt w b k

theorem setCell_other {ad : Addr} {u : Value} {k : Nat} (h : k ≠ ad.block) : (w.setCell ad u).heap[k]? = w.heap[k]? := by
  simp only [World.setCell, Array.getElem?_modify]
  rw [if_neg (Ne.symm h)]

theorem storeCells_run (P : Program) {b o' : Nat} : ∀ (us : List Value) (i : Nat) (w : World),
    (∀ k, k < us.length → (∃ cv, cellAt w b (o' + i + k) = some cv) ∧ w.frozen? ⟨b, o' + i + k, none⟩ = false) → (∀ u, u ∈ us → u.oneCell' = true) →
    ∃ w', (storeCells ⟨b, o', none⟩ us i).run P w = .ok () w' ∧ Wrote w w' b (o' + i) us
  | [], i, w, _, _ => ⟨w, by simp [storeCells], rfl, rfl, rfl, fun _ _ => rfl, fun _ => rfl, fun k => by rw [if_neg (by simp only [List.length_nil]; omega)]⟩
  | u :: us, i, w, h, hu => by
    obtain ⟨⟨cv, h1⟩, h2⟩ := h 0 (by simp)
    simp only [Nat.add_zero] at h1 h2
    have h1' : w.cell? ⟨b, o' + i, none⟩ = some cv := h1
    have hcell : ∀ k, cellAt (w.setCell ⟨b, o' + i, none⟩ u) b k = if k = o' + i then some u else cellAt w b k := by
      intro k
      by_cases hk : k = o' + i
      · subst hk; rw [if_pos rfl]; exact World.cell?_setCell_same w _ u h1'
      · rw [if_neg hk]; exact World.cell?_setCell_other w ⟨b, o' + i, none⟩ ⟨b, k, none⟩ u (fun e => hk (by simp only [Addr.mk.injEq] at e; exact e.2.1.symm))
    obtain ⟨w', r1, r2⟩ := storeCells_run P us (i + 1) (w.setCell ⟨b, o' + i, none⟩ u) (fun k hk => by
      obtain ⟨⟨cv', k1⟩, k2⟩ := h (k + 1) (by simp; omega)
      rw [show o' + i + (k + 1) = o' + (i + 1) + k by omega] at k1 k2
      exact ⟨⟨cv', by rw [hcell (o' + (i + 1) + k), if_neg (by omega)]; exact k1⟩, by rw [World.frozen?_setCell]; exact k2⟩) (fun u hu' => hu u (List.mem_cons_of_mem _ hu'))
    refine ⟨w', ?_, ?_⟩
    · simp only [storeCells, Sem.run_bind, Addr.add_spot]
      rw [run_store P w _ u _ (hu u (List.mem_cons_self ..)), h1']
      simp only [h2, Bool.false_eq_true, if_false, Result.andThen_ok]
      exact r1
    · refine ⟨r2.size.trans (by simp), r2.os.trans rfl, r2.output.trans rfl, fun k hk => (r2.other k hk).trans (setCell_other hk), fun ad => (r2.frozen ad).trans (World.frozen?_setCell ..), fun k => ?_⟩
      rw [r2.cell k, hcell k]
      simp only [List.length_cons]
      by_cases hk : k = o' + i
      · subst hk
        rw [if_neg (by omega), if_pos rfl, if_pos (by omega), Nat.sub_self]; rfl
      · rw [if_neg hk]
        by_cases h3 : o' + (i + 1) ≤ k ∧ k < o' + (i + 1) + us.length
        · rw [if_pos h3, if_pos (by omega), show k - (o' + i) = (k - (o' + (i + 1))) + 1 by omega, List.getElem?_cons_succ]
        · rw [if_neg h3, if_neg (by omega)]

theorem WR.uniq_set {id : Nat} {L : Loc} {cs : List AV} {x : HO} (hW : WR GC B0 g hp c w) (hl : g.loc id = some L) (hc : cellsAt hp id = some cs) :
    ∀ i j L1 L2, g.loc i = some L1 → g.loc j = some L2 → L1.b = L2.b → live ((hp.set id x).get i) = true → live ((hp.set id x).get j) = true → i = j := by
  have hlv : live (hp.get id) = true := by rw [cellsAt_inv hc]; rfl
  intro i j L1 L2 e1 e2 eb v1 v2
  have g1 : live (hp.get i) = true := by
    by_cases h : i = id
    · rw [h]; exact hlv
    · rwa [PT.get_set_ne _ _ h] at v1
  have g2 : live (hp.get j) = true := by
    by_cases h : j = id
    · rw [h]; exact hlv
    · rwa [PT.get_set_ne _ _ h] at v2
  exact hW.uniq i j L1 L2 e1 e2 eb g1 g2

/-- cells of an object were overwritten -/
theorem Wrote.sim {w' : World} {id : Nat} {L : Loc} {cs cs' : List AV} {off : Nat} {xs : List AV} {us : List Value} (hW : WR GC B0 g hp c w) (hl : g.loc id = some L) (hc : cellsAt hp id = some cs)
    (hsp : splice cs off xs = some cs') (hlen : xs.length = us.length) (hv : ∀ k x, xs[k]? = some x → VR g w x (us.getD k undef)) (h : Wrote w w' L.b (L.o + off) us) (hnz : xs ≠ []) :
    Ext B0 g w g w' ∧ WR GC B0 g (hp.set id (.cells cs')) c w' := by
  obtain ⟨o1, o2, o3, o4⟩ := hW.own hl hc
  obtain ⟨s1, s2⟩ := splice_get cs off xs cs' hsp
  have s3 := splice_len cs off xs cs' hsp
  have hoff : off + xs.length ≤ cs.length := (splice_eq cs off xs cs' hsp (.inl hnz)).1
  have hpos : 0 < xs.length := List.length_pos_iff.2 hnz
  have hB : B0 ≤ L.b := (hW.place _ _ hl).1
  have hext : Ext B0 g w g w' := by
    refine ⟨fun _ _ e => e, fun b o' e => ⟨e, ?_⟩, fun k hk => h.other k (by omega), h.os, h.output, by rw [h.size]; exact Nat.le_refl _, fun _ => Iff.rfl, fun _ _ _ => rfl⟩
    by_cases hb : b = L.b
    · subst hb
      rw [h.cell]
      split
      · rename_i hk
        have := (o3 (o' - L.o) (by omega)).1
        rw [show L.o + (o' - L.o) = o' by omega, e] at this
        cases this
      · rfl
    · exact cellAt_congr (h.other b hb)
  refine ⟨hext, ?_, hW.fresh, fun b o' e => by rw [h.size]; exact hW.tagged b o' e, hW.owned, fun id' L' e => by rw [h.size]; exact hW.place id' L' e, hW.uniq_set hl hc, by rw [h.size]; exact hW.base, hW.kept, fun gi cs0 e => ?_⟩
  · intro id' L' e
    by_cases hid : id' = id
    · subst hid
      rw [hl] at e; simp only [Option.some.injEq] at e; subst e
      rw [PT.get_set_same]
      refine ⟨by rw [s3]; exact o1, o2, fun k hk => ?_, fun k x e => ?_⟩
      · obtain ⟨k1, ⟨cv, k2⟩, k3⟩ := o3 k hk
        refine ⟨k1, ?_, by rw [h.frozen]; exact k3⟩
        rw [h.cell]
        split
        · rename_i hk2
          have : L.o + k - (L.o + off) < us.length := by omega
          exact ⟨us[L.o + k - (L.o + off)], by simp [this]⟩
        · exact ⟨cv, k2⟩
      · rw [s2 k] at e
        rw [h.cell]
        by_cases hk : off ≤ k ∧ k < off + xs.length
        · rw [if_pos hk] at e
          rw [if_pos (by omega), show L.o + k - (L.o + off) = k - off by omega]
          have hlt : k - off < us.length := by omega
          refine ⟨us[k - off], by simp [hlt], ?_⟩
          have := hv _ _ e
          rw [List.getD_eq_getElem?_getD, List.getElem?_eq_getElem hlt] at this
          exact VR.mono hext.sub this
        · rw [if_neg hk] at e
          rw [if_neg (by omega)]
          obtain ⟨cv, k1, k2⟩ := o4 k x e
          exact ⟨cv, k1, k2.mono hext.sub⟩
    · rw [PT.get_set_ne _ _ hid]
      cases hlv : live (hp.get id') with
      | false => exact Own1.of_dead hlv (fun es he => by have := hW.obj id' L' e; rw [he] at this; exact this)
      | true => exact (hW.obj id' L' e).keep hext.sub (fun o' ht => ht) (h.other _ (fun hb => hid (hW.uniq id' id L' L e hl hb hlv (by rw [cellsAt_inv hc]; rfl))))
  · obtain ⟨cv, hcv⟩ := hW.glob gi cs0 e
    refine ⟨cv, fun k x hk => ?_⟩
    obtain ⟨k1, k2, k3⟩ := hcv k x hk
    have := hext.ro _ _ k1
    exact ⟨this.1, by rw [this.2]; exact k2, k3.mono hext.sub⟩
end
end Det
