/- Part 1 of the proof of PairBack: A1, A2, A3, A4, A5, A6, A7, A8, A9, A10, A11, A12, D1, D2, W1. -/
import Derived.RowKit3
import Derived.Laws.CopyRow
import Derived.Laws.Cells
import Derived.Laws.Entries
import Derived.Laws.AppendOwn
import Derived.Orders
import Derived.KernelRfl
import Derived.CheckFast
import Derived.Laws.StructEq
set_option linter.unusedVariables false
set_option linter.unusedSimpArgs false
namespace Go.Proofs.Ytbpcjahjbkiofaa.AV
open Go

/-- Abstract values. -/
inductive AV : Type where
  | top
  | tt | ff
  | bool (b : Bool)
  | int (k : IntKind) (n : Int)
  | str (s : ByteArray)
  | list (sz n : Nat) (f : Nat → List AV)
  | zsl
  | row (sz id ver off len : Nat)
  | nilp
  | ptr (id ver e o : Nat)
  | fptr (cells : List AV) (o : Nat)
  | func (f : FuncId) (cap : List AV)
  | nilf
  | nili
  | agg (l : List AV)
  | tuple (l : List AV)
  | when (ps : List Bool) (x : AV)

instance : Inhabited AV := ⟨.top⟩

/-- Objects of the call's own. -/
inductive Ob : Type where
  | fresh
  | dead
  | box (cells : List AV)
  | row (sz n ver : Nat) (f : Nat → List AV)
  | cap (id ver C : Nat)

abbrev Env := List (Nat × AV)
abbrev Tab := List Ob

def eget (env : Env) (n : Nat) : AV :=
  match env with
  | [] => .top
  | (i, v) :: r => bif Nat.beq i n then v else eget r n

def tget (T : Tab) (n : Nat) : Ob :=
  match T with
  | [] => .fresh
  | o :: r => match n with
    | 0 => o
    | n + 1 => tget r n

def tset (T : Tab) (n : Nat) (o : Ob) : Tab :=
  match T with
  | [] => match n with
    | 0 => [o]
    | n + 1 => .fresh :: tset [] n o
  | x :: r => match n with
    | 0 => o :: r
    | n + 1 => x :: tset r n o

def lget (l : List AV) (n : Nat) : AV :=
  match l with
  | [] => .top
  | x :: r => match n with
    | 0 => x
    | n + 1 => lget r n

def lset (l : List AV) (n : Nat) (v : AV) : List AV :=
  match l with
  | [] => []
  | x :: r => match n with
    | 0 => v :: r
    | n + 1 => x :: lset r n v

/-- Operands. -/
inductive Opd where
  | t (n : Nat)
  | c (v : Value)

inductive AOp where
  | mv (x : Opd)
  | pick (c a b : Opd)
  | alloc (zero : List Value)
  | allocA (n : Nat) (z : Value)
  | box (x : Opd)
  | ld (sz : Nat) (agg : Bool) (x : Opd)
  | st (sz : Nat) (x v : Opd)
  | nilc (x : Opd)
  | bin (op : BinOp) (x y : Opd)
  | binB (neg : Bool) (x y : Opd)
  | binS (neg : Bool) (x y : Opd)
  | eqA (neg : Bool) (size : Nat) (offs : List (Nat × Nat)) (x y : Opd)
  | eqNilP (neg : Bool) (x : Opd)
  | eqNil (neg : Bool) (x : Opd)
  | not (x : Opd)
  | neg (x : Opd)
  | fa (off : Nat) (x : Opd)
  | fld (off sz : Nat) (agg : Bool) (x : Opd)
  | ia (sz : Nat) (x i : Opd)
  | iaA (n sz : Nat) (x i : Opd)
  | ixS (x i : Opd)
  | bld (zero : List Value) (parts : List (Nat × Nat × Opd))
  | bsl (sz : Nat) (parts : List Opd)
  | bslF (sz : Nat) (parts : List Opd)
  | ext (n : Nat) (x : Opd)
  | cvI (k : IntKind) (x : Opd)
  | cvSB (x : Opd)
  | cvBS (x : Opd)
  | sl (sz : Nat) (x : Opd) (lo hi mx : Option Opd)
  | slS (x : Opd) (lo hi : Option Opd)
  | mk (sz bytes : Nat) (zero : List Value) (len cap : Opd)
  | fn (f : FuncId) (cap : List Opd)
  | len (x : Opd)
  | lenS (x : Opd)
  | app (sz bytes : Nat) (x y : Opd)
  | appS (x y : Opd)
  | appz (sz bytes : Nat) (zero : List Value) (x y : Opd)
  | mnmx (mx : Bool) (x y : Opd)
  | call (f : FuncId) (args : List Opd)
  | callv (g : Opd) (args : List Opd)
  | cap (x : Opd)
  | copy (sz : Nat) (x y : Opd)
  | clr (sz : Nat) (zero : List Value) (x : Opd)
  | ovl (f : FuncId) (x y : Opd)

structure AOper where
  dst : Option Nat
  op : AOp
  guard : Option (Nat × Bool)

inductive ACode where
  | skip
  | reg (ops : List AOper)
  | draw (ops : List AOper) (bm : List Nat)
  | seq (a b : ACode)
  | cond (c : Opd) (a b : ACode)
  | block (id : Nat) (a : ACode)
  | loop (a : ACode)
  | exit (id : Nat)
  | ret

/-! ### The translation -/
section
variable (P : Program) (nt : Nat)

def opd : Operand → Option Opd
  | .tmp n => some (.t n)
  | .const v => some (.c v)
  | .func f => some (.c (.func (.func f) #[] #[]))
  | .global _ => none

def opds : List Operand → Option (List Opd)
  | [] => some []
  | x :: r => match opd x, opds r with
    | some a, some b => some (a :: b)
    | _, _ => none

def opdO : Option Operand → Option (Option Opd)
  | none => some none
  | some x => match opd x with
    | some a => some (some a)
    | none => none

def isAggB (d : TypeDesc) : Bool := match d with
  | .struct _ | .array _ _ => true
  | _ => false

/-- Constants whose abstract value is known. -/
def plainV : Value → Bool
  | .bool _ | .int _ _ | .string _ | .slice none 0 0 | .pointer none | .nilFunc | .nilIface => true
  | .func (.func _) ⟨[]⟩ ⟨[]⟩ => true
  | _ => false

def sameScalar : Value → Value → Bool
  | .bool a, .bool b => a == b
  | .int j a, .int k b => j == k && a == b
  | _, _ => false

def partsOf (P : Program) (fs : Array Field) : List (Nat × Operand) → Option (List (Nat × Nat × Opd))
  | [] => some []
  | (i, x) :: r => match fs[i]?, opd x, partsOf P fs r with
    | some f, some a, some b => match P.info? f.type with
      | some ti => some ((f.offset, ti.size, a) :: b)
      | none => none
    | _, _, _ => none

def partsOfA (sz : Nat) : List (Nat × Operand) → Option (List (Nat × Nat × Opd))
  | [] => some []
  | (i, x) :: r => match opd x, partsOfA sz r with
    | some a, some b => some ((i * sz, sz, a) :: b)
    | _, _ => none

/-- All parts, in order, without gaps. -/
def inOrder (k : Nat) : List (Nat × Operand) → Bool
  | [] => true
  | (i, _) :: r => Nat.beq i k && inOrder (k + 1) r

/-- The places of the cells that are compared, each with its kind: 0: a bool, 1: an integer, 2: a string. -/
def leavesF (g : TypeId → Nat → Option (List (Nat × Nat))) (P : Program) (size : Nat) : List Field → Nat → Option (List (Nat × Nat))
  | [], _ => some []
  | f :: r, off => match f.name == "_", P.info? f.type with
    | false, some ti => match Nat.ble (f.offset + ti.size) size && Nat.blt 0 ti.size, g f.type (off + f.offset), leavesF g P size r off with
      | true, some a, some b => some (a ++ b)
      | _, _, _ => none
    | _, _ => none

def leavesA (g : Nat → Option (List (Nat × Nat))) (sz : Nat) : Nat → Nat → Option (List (Nat × Nat))
  | 0, _ => some []
  | n + 1, off => match g off, leavesA g sz n (off + sz) with
    | some a, some b => some (a ++ b)
    | _, _ => none

def leaves (P : Program) : Nat → TypeId → Nat → Option (List (Nat × Nat))
  | 0, _, _ => none
  | d + 1, t, off => match P.underlying t, P.info? t with
    | some .bool, _ => some [(off, 0)]
    | some (.int _), _ => some [(off, 1)]
    | some .string, _ => some [(off, 2)]
    | some (.struct fs), some ti => if P.stoodInHeld t then none else leavesF (leaves P d) P ti.size fs.toList off
    | some (.array n e), some ti => match P.info? e with
      | some te => if Nat.ble (n * te.size) ti.size && Nat.blt 0 te.size then leavesA (leaves P d e) te.size n off else none
      | none => none
    | _, _ => none

def isNegE : BinOp → Option Bool
  | .eql => some false
  | .neq => some true
  | _ => none

def cBin (op : BinOp) (t : TypeId) (x y : Operand) : Option AOp :=
  match opd x, opd y, P.underlying t with
  | some a, some b, some d => match d with
    | .struct _ => match isNegE op, leaves P 20 t 0, P.info? t with
      | some n, some l, some ti => if P.eqGuardType P.depth t || Nat.beq ti.size 0 then none else some (.eqA n ti.size l a b)
      | _, _, _ => none
    | .array _ _ => match isNegE op, leaves P 20 t 0, P.info? t with
      | some n, some l, some ti => if P.eqGuardType P.depth t || Nat.beq ti.size 0 then none else some (.eqA n ti.size l a b)
      | _, _, _ => none
    | .slice _ => match b, isNegE op with
      | .c (.slice none 0 0), some n => some (.eqNil n a)
      | _, _ => none
    | .pointer _ => match b, isNegE op with
      | .c (.pointer none), some n => some (.eqNilP n a)
      | _, _ => none
    | .int _ => some (.bin op a b)
    | .bool => match isNegE op with
      | some n => some (.binB n a b)
      | none => none
    | .string => match isNegE op with
      | some n => some (.binS n a b)
      | none => none
    | _ => none
  | _, _, _ => none

def cCall (c : Call) (ty : TypeId) : Option AOp :=
  match c.callee with
  | .value (.func f) => match opds c.args.toList, P.funcs[f]? with
    | some l, some fn => if fn.body.isSome && fn.name != "runtime.NumGoroutine" then some (.call f l) else match l with
      | [a, b] => if fn.body.isNone && fn.origin == "slices.overlaps" then some (.ovl f a b) else none
      | _ => none
    | _, _ => none
  | .value (.tmp g) => match opds c.args.toList with
    | some l => some (.callv (.t g) l)
    | none => none
  | .builtin .len => match c.args.toList, c.argTypes.toList with
    | [x], [t] => match opd x, P.underlying t with
      | some a, some (.slice _) => some (.len a)
      | some a, some .string => some (.lenS a)
      | _, _ => none
    | _, _ => none
  | .builtin .append => match c.args.toList, c.argTypes.toList with
    | [x, y], [t, u] => match opd x, opd y, P.underlying t, P.underlying u with
      | some a, some b, some (.slice e), some (.slice _) => match P.info? e with
        | some ti => match ti.zero with
          | some z => if z.cells.size == ti.size && Nat.blt 0 ti.size && t == u && z.cells.toList.all plainV then some (.app ti.size ti.bytes a b) else none
          | none => none
        | none => none
      | some a, some b, some (.slice e), some .string => match P.info? e with
        | some ti => match ti.zero with
          | some z => if z.cells.size == ti.size && ti.size == 1 then some (.appS a b) else none
          | none => none
        | none => none
      | some a, some b, some (.slice e), some (.int _) => match P.info? e with
        | some ti => match ti.zero with
          | some z => if z.cells.size == ti.size && Nat.blt 0 ti.size && z.cells.toList.all plainV then some (.appz ti.size ti.bytes z.cells.toList a b) else none
          | none => none
        | none => none
      | _, _, _, _ => none
    | _, _ => none
  | .builtin .max => match opds c.args.toList with
    | some [a, b] => some (.mnmx true a b)
    | _ => none
  | .builtin .min => match opds c.args.toList with
    | some [a, b] => some (.mnmx false a b)
    | _ => none
  | .builtin .cap => match c.args.toList, c.argTypes.toList with
    | [x], [t] => match opd x, P.underlying t with
      | some a, some (.slice _) => some (.cap a)
      | _, _ => none
    | _, _ => none
  | .builtin .copy => match c.args.toList, c.argTypes.toList with
    | [x, y], [t, u] => match opd x, opd y, P.underlying t, P.underlying u with
      | some a, some b, some (.slice e), some (.slice _) => match P.info? e with
        | some ti => if Nat.blt 0 ti.size && t == u then some (.copy ti.size a b) else none
        | none => none
      | _, _, _, _ => none
    | _, _ => none
  | .builtin .clear => match c.args.toList, c.argTypes.toList with
    | [x], [t] => match opd x, P.underlying t with
      | some a, some (.slice e) => match P.info? e with
        | some ti => match ti.zero with
          | some z => if z.cells.size == ti.size && Nat.blt 0 ti.size && z.cells.toList.all plainV then some (.clr ti.size z.cells.toList a) else none
          | none => none
        | none => none
      | _, _ => none
    | _, _ => none
  | _ => none

def cOp (o : Oper) : Option AOp :=
  match o.op with
  | .move x | .assign x => (opd x).map .mv
  | .pick c a b => match opd c, opd a, opd b with
    | some c, some a, some b => some (.pick c a b)
    | _, _, _ => none
  | .alloc t => match P.info? t, P.underlying t with
    | some ti, some d => match ti.zero with
      | some z => match d with
        | .array n e => if Nat.ble n 8 then (if z.cells.toList.all plainV then some (.alloc z.cells.toList) else none) else match z.cells.toList with
          | c :: r => if Nat.beq r.length (n - 1) && Nat.blt 0 n && Nat.blt n 100000 && sameScalar c c && r.all (sameScalar c) then some (.allocA n c) else none
          | [] => none
        | _ => if z.cells.toList.all plainV then some (.alloc z.cells.toList) else none
      | none => none
    | _, _ => none
  | .box _ x => (opd x).map .box
  | .load t x => match P.info? t, P.underlying t, opd x with
    | some ti, some d, some a => some (.ld ti.size (isAggB d) a)
    | _, _, _ => none
  | .store t x v => match P.info? t, opd x, opd v with
    | some ti, some a, some b => some (.st ti.size a b)
    | _, _, _ => none
  | .nilCheck x => (opd x).map .nilc
  | .binOp op t x y _ => cBin P op t x y
  | .unOp .not _ x => (opd x).map .not
  | .unOp .neg _ x => (opd x).map .neg
  | .fieldAddr t x i => match P.underlying t, opd x with
    | some (.struct fs), some a => match fs[i]? with
      | some f => match P.info? f.type with
        | some ti => if Nat.beq ti.size 0 then none else some (.fa f.offset a)
        | none => none
      | none => none
    | _, _ => none
  | .field t x i => match P.underlying t, opd x with
    | some (.struct fs), some a => match fs[i]? with
      | some f => match P.info? f.type, P.underlying f.type with
        | some ti, some d => some (.fld f.offset ti.size (isAggB d) a)
        | _, _ => none
      | none => none
    | _, _ => none
  | .indexAddr t x i => match P.underlying t, opd x, opd i with
    | some (.array n e), some a, some b => match P.info? e with
      | some ti => if Nat.blt 1 n && Nat.blt 0 ti.size then some (.iaA n ti.size a b) else none
      | none => none
    | some (.slice e), some a, some b => match P.info? e with
      | some ti => if Nat.blt 0 ti.size then some (.ia ti.size a b) else none
      | none => none
    | _, _, _ => none
  | .index t x i => match P.underlying t, opd x, opd i with
    | some .string, some a, some b => some (.ixS a b)
    | _, _, _ => none
  | .build t ps => match P.underlying t, P.info? t with
    | some (.struct fs), some ti => match ti.zero, partsOf P fs ps.toList with
      | some z, some l => if z.cells.toList.all plainV && fs.toList.all (fun f => (P.info? f.type).isSome) then some (.bld z.cells.toList l) else none
      | _, _ => none
    | some (.array _ e), some ti => match ti.zero, P.info? e with
      | some z, some te => match partsOfA te.size ps.toList with
        | some l => if z.cells.toList.all plainV then some (.bld z.cells.toList l) else none
        | none => none
      | _, _ => none
    | _, _ => none
  | .buildSlice t len ps => match P.underlying t with
    | some (.slice e) => match P.info? e, opds (ps.toList.map (·.2)) with
      | some ti, some l => match ti.zero with
        | some z => if Nat.blt 0 ti.size && z.cells.size == ti.size && Nat.beq l.length len && inOrder 0 ps.toList && Nat.blt (len * ti.size) 1000 then (if Nat.ble 2 ti.size && Nat.blt 0 l.length then some (.bslF ti.size l) else some (.bsl ti.size l)) else none
        | none => none
      | _, _ => none
    | _ => none
  | .extract x n => (opd x).map (.ext n)
  | .convert s d x => match P.underlying s, P.underlying d, opd x with
    | some (.int _), some (.int k), some a => some (.cvI k a)
    | some .string, some (.slice e), some a => match P.underlying e with
      | some (.int .u8) => some (.cvSB a)
      | _ => none
    | some (.slice e), some .string, some a => match P.underlying e with
      | some (.int .u8) => some (.cvBS a)
      | _ => none
    | _, _, _ => none
  | .slice t x lo hi mx => match P.underlying t, opd x, opdO lo, opdO hi, opdO mx with
    | some (.slice e), some a, some l, some h, some m => match P.info? e with
      | some ti => if Nat.blt 0 ti.size then some (.sl ti.size a l h m) else none
      | none => none
    | some .string, some a, some l, some h, some none => some (.slS a l h)
    | _, _, _, _, _ => none
  | .makeSlice t l c => match P.underlying t, opd l, opd c with
    | some (.slice e), some a, some b => match P.info? e with
      | some ti => match ti.zero with
        | some z => if Nat.blt 0 ti.size && z.cells.size == ti.size && z.cells.toList.all plainV then some (.mk ti.size ti.bytes z.cells.toList a b) else none
        | none => none
      | none => none
    | _, _, _ => none
  | .makeFunc (.func f) first cap => match first.toList, opds cap.toList with
    | [], some l => some (.fn f l)
    | _, _ => none
  | .call c => cCall P c o.type
  | _ => none

def dstOk (nt : Nat) : Option Nat → Bool
  | none => true
  | some d => Nat.blt d nt

def cOper (ops : Array Oper) (o : Oper) : Option AOper :=
  match cOp P o with
  | none => none
  | some p =>
    match dstOk nt o.dst with
    | false => none
    | true => match o.guard with
      | none => some ⟨o.dst, p, none⟩
      | some (j, b) => match (ops[j]?).bind (·.dst) with
        | some s => some ⟨o.dst, p, some (s, b)⟩
        | none => none

def cOpers (ops : Array Oper) : List Oper → Option (List AOper)
  | [] => some []
  | o :: r => match cOper P nt ops o, cOpers ops r with
    | some a, some b => some (a :: b)
    | _, _ => none

/-! The order that a region leaves open: for each operation, as the bits of a number, those that must stand before it. -/
def nthN (l : List Nat) (i : Nat) : Nat :=
  match l with
  | [] => 0
  | x :: r => match i with
    | 0 => x
    | i + 1 => nthN r i

def mask1 (acc : List Nat) : List Edge → Option Nat
  | [] => some 0
  | e :: r => match mask1 acc r with
    | none => none
    | some m => match Region.binds .any e with
      | false => some m
      | true => match Nat.blt e.on acc.length with
        | true => some (Nat.lor (Nat.lor m (2 ^ e.on)) (nthN acc e.on))
        | false => none

def masks (acc : List Nat) : List Oper → Option (List Nat)
  | [] => some acc
  | o :: r => match mask1 acc o.after.toList with
    | some m => CheckFast.force m fun m => masks (acc ++ [m]) r
    | none => none

def cCode : Code → Option ACode
  | .skip => some .skip
  | .region _ ops d => match cOpers P nt ops ops.toList with
    | some l => match d with
      | false => some (.reg l)
      | true => match P.follows .mixedOrders, masks [] ops.toList with
        | true, some bm => some (.draw l bm)
        | _, _ => none
    | none => none
  | .seq a b => match cCode a, cCode b with
    | some x, some y => some (.seq x y)
    | _, _ => none
  | .cond c a b => match opd c, cCode a, cCode b with
    | some c, some x, some y => some (.cond c x y)
    | _, _, _ => none
  | .block i a => match cCode a with
    | some x => some (.block i x)
    | none => none
  | .loop a => match cCode a with
    | some x => some (.loop x)
    | none => none
  | .exit i => some (.exit i)
  | .ret => some .ret
  | _ => none
end

end Go.Proofs.Ytbpcjahjbkiofaa.AV

set_option linter.unusedVariables false
set_option linter.unusedSimpArgs false
namespace Go.Proofs.Ytbpcjahjbkiofaa.AV
open Go

def capOf (w : World) (b : Nat) : Nat := match w.heap[b]? with
  | some (.cells c _ _) => c.size
  | _ => 0

def SliceAt (w : World) (mu : Nat → Option Nat) (id sz off len : Nat) (v : Value) : Prop :=
  match mu id with
  | some b => ∃ cap, v = .slice (some ⟨b, off * sz, none⟩) len cap ∧ (off + cap) * sz = capOf w b ∧ len ≤ cap
  | none => off = 0 ∧ len = 0 ∧ ∃ a, v = .slice a 0 0

def PtrAt (mu : Nat → Option Nat) (id o : Nat) (v : Value) : Prop := ∃ b, mu id = some b ∧ v = .pointer (some ⟨b, o, none⟩)

/-- What a reference needs of the table. -/
def RowRef (w : World) (mu : Nat → Option Nat) (T : Tab) (sz id ver off len : Nat) (v : Value) : Prop :=
  tget T id ≠ .fresh ∧ (∀ cells, tget T id ≠ .box cells) ∧
  ∀ sz' n cv f, tget T id = .row sz' n cv f → ver ≤ cv ∧ (ver = cv → sz' = sz ∧ off + len ≤ n ∧ SliceAt w mu id sz off len v)

def PtrRef (mu : Nat → Option Nat) (T : Tab) (id ver e o : Nat) (v : Value) : Prop :=
  tget T id ≠ .fresh ∧
  (∀ cells, tget T id = .box cells → e = 0 ∧ PtrAt mu id o v) ∧
  ∀ sz n cv f, tget T id = .row sz n cv f → ver ≤ cv ∧ (ver = cv → e < n ∧ PtrAt mu id (e * sz + o) v)

/-- All of them are true. -/
def AllT : List Bool → Prop
  | [] => True
  | p :: r => p = true ∧ AllT r

inductive RV (w : World) (ok : Nat → Prop) (mu : Nat → Option Nat) (T : Tab) : Bool → Value → AV → Prop
  | top (z : Bool) (v : Value) : RV w ok mu T z v .top
  | tt (z : Bool) : RV w ok mu T z (.bool true) .tt
  | ff (z : Bool) : RV w ok mu T z (.bool false) .ff
  | bool (z b : Bool) : RV w ok mu T z (.bool b) (.bool b)
  | int (z : Bool) (k : IntKind) (n : Int) : RV w ok mu T z (.int k n) (.int k n)
  | str (z : Bool) (s : ByteArray) : RV w ok mu T z (.string s) (.str s)
  | list (z : Bool) (a : Option Addr) (cap sz n : Nat) (f : Nat → List AV) (cv : Nat → Nat → Value)
      (hn : n ≤ cap) (hc : cap ≤ maxLen) (hs : 0 < sz)
      (ha : 0 < n → ∃ b off, a = some ⟨b, off, none⟩ ∧ ok b ∧ ∀ i o, i < n → o < sz → w.cell? ⟨b, off + (i * sz + o), none⟩ = some (cv i o))
      (hl : ∀ i, i < n → (f i).length = sz)
      (h1 : ∀ i o, i < n → o < sz → (cv i o).oneCell' = true)
      (hv : ∀ i o, i < n → o < sz → RV w ok mu T true (cv i o) (lget (f i) o)) :
      RV w ok mu T z (.slice a n cap) (.list sz n f)
  | zsl (z : Bool) (a : Option Addr) : RV w ok mu T z (.slice a 0 0) .zsl
  | nilp (z : Bool) : RV w ok mu T z (.pointer none) .nilp
  | nilf (z : Bool) : RV w ok mu T z .nilFunc .nilf
  | nili (z : Bool) : RV w ok mu T z .nilIface .nili
  | fptr (z : Bool) (b off o : Nat) (cells : List AV) (cv : Nat → Value) (hb : ok b) (ho : o ≤ cells.length)
      (hc : ∀ j, j < cells.length → w.cell? ⟨b, off + j, none⟩ = some (cv j))
      (h1 : ∀ j, j < cells.length → (cv j).oneCell' = true)
      (hv : ∀ j, j < cells.length → RV w ok mu T true (cv j) (lget cells j)) :
      RV w ok mu T z (.pointer (some ⟨b, off + o, none⟩)) (.fptr cells o)
  | func (z : Bool) (f : FuncId) (cs : Array Value) (l : List AV) (hs : cs.size = l.length)
      (hv : ∀ j, j < l.length → RV w ok mu T z (cs.getD j undef) (lget l j)) :
      RV w ok mu T z (.func (.func f) #[] cs) (.func f l)
  | agg (z : Bool) (cs : Array Value) (l : List AV) (hs : cs.size = l.length)
      (h1 : ∀ j, j < l.length → (cs.getD j undef).oneCell' = true)
      (hv : ∀ j, j < l.length → RV w ok mu T z (cs.getD j undef) (lget l j)) :
      RV w ok mu T z (.agg cs) (.agg l)
  | tuple (z : Bool) (cs : Array Value) (l : List AV) (hs : cs.size = l.length)
      (hv : ∀ j, j < l.length → RV w ok mu T z (cs.getD j undef) (lget l j)) :
      RV w ok mu T z (.tuple cs) (.tuple l)
  | when (z : Bool) (v : Value) (ps : List Bool) (x : AV) (h : AllT ps → RV w ok mu T z v x) (h2 : ¬ AllT ps → v = undef) : RV w ok mu T z v (.when ps x)
  | row (v : Value) (sz id ver off len : Nat) (h1 : ∃ A cap, v = .slice A len cap) (h : RowRef w mu T sz id ver off len v) : RV w ok mu T false v (.row sz id ver off len)
  | ptr (v : Value) (id ver e o : Nat) (h1 : v.oneCell' = true) (h : PtrRef mu T id ver e o v) : RV w ok mu T false v (.ptr id ver e o)

theorem RV.thaw {w : World} {ok : Nat → Prop} {mu : Nat → Option Nat} {T : Tab} {z : Bool} {v : Value} {x : AV} (h : RV w ok mu T true v x) : RV w ok mu T z v x := by
  generalize hz : true = y at h
  induction h with
  | top => exact .top _ _
  | tt => exact .tt _
  | ff => exact .ff _
  | bool => exact .bool _ _
  | int => exact .int _ _ _
  | str => exact .str _ _
  | list _ a cap sz n f cv hn hc hs ha hl h1 hv _ => exact .list _ a cap sz n f cv hn hc hs ha hl h1 hv
  | zsl => exact .zsl _ _
  | nilp => exact .nilp _
  | nilf => exact .nilf _
  | nili => exact .nili _
  | fptr _ b off o cells cv hb ho hc h1 hv _ => exact .fptr _ b off o cells cv hb ho hc h1 hv
  | func _ f cs l hs hv ih => exact .func _ f cs l hs fun j hj => ih j hj hz
  | agg _ cs l hs h1 hv ih => exact .agg _ cs l hs h1 fun j hj => ih j hj hz
  | tuple _ cs l hs hv ih => exact .tuple _ cs l hs fun j hj => ih j hj hz
  | when _ v ps x h h2 ih => exact .when _ v ps x (fun hp => ih hp hz) h2
  | row => cases hz
  | ptr => cases hz

/-- From one table to a later one, as far as references go. -/
def Compat (w w' : World) (mu mu' : Nat → Option Nat) (T T' : Tab) : Prop :=
  ∀ id, tget T id ≠ .fresh → tget T' id ≠ .fresh ∧
    (∀ cells', tget T' id = .box cells' → (∃ cells, tget T id = .box cells) ∧ mu' id = mu id) ∧
    ∀ sz n' cv' f', tget T' id = .row sz n' cv' f' → ∃ n cv f, tget T id = .row sz n cv f ∧ cv ≤ cv' ∧
      (cv = cv' → n ≤ n' ∧ mu' id = mu id ∧ ∀ b, mu id = some b → capOf w' b = capOf w b)

theorem Compat.trans {w w' w'' : World} {mu mu' mu'' : Nat → Option Nat} {T T' T'' : Tab} (h : Compat w w' mu mu' T T') (k : Compat w' w'' mu' mu'' T' T'') : Compat w w'' mu mu'' T T'' := by
  intro id hid
  obtain ⟨a1, a2, a3⟩ := h id hid
  obtain ⟨b1, b2, b3⟩ := k id a1
  refine ⟨b1, fun cells e => ?_, fun sz n cv f e => ?_⟩
  · obtain ⟨⟨c1, e1⟩, m1⟩ := b2 cells e
    obtain ⟨q, m2⟩ := a2 c1 e1
    exact ⟨q, m1.trans m2⟩
  · obtain ⟨n1, cv1, f1, e1, le1, s1⟩ := b3 sz n cv f e
    obtain ⟨n0, cv0, f0, e0, le0, s0⟩ := a3 sz n1 cv1 f1 e1
    refine ⟨n0, cv0, f0, e0, Nat.le_trans le0 le1, fun hcv => ?_⟩
    obtain ⟨x1, x2, x3⟩ := s1 (by omega)
    obtain ⟨y1, y2, y3⟩ := s0 (by omega)
    exact ⟨Nat.le_trans y1 x1, x2.trans y2, fun b hb => (x3 b (by rw [y2]; exact hb)).trans (y3 b hb)⟩

theorem SliceAt.same {w w' : World} {mu mu' : Nat → Option Nat} {id sz off len : Nat} {v : Value} (h : SliceAt w mu id sz off len v)
    (hm : mu' id = mu id) (hc : ∀ b, mu id = some b → capOf w' b = capOf w b) : SliceAt w' mu' id sz off len v := by
  unfold SliceAt at *
  rw [hm]
  cases hb : mu id with
  | none => rw [hb] at h; exact h
  | some b =>
    rw [hb] at h
    obtain ⟨cap, e, h1, h2⟩ := h
    exact ⟨cap, e, by rw [hc b hb]; exact h1, h2⟩

theorem PtrAt.same {mu mu' : Nat → Option Nat} {id o : Nat} {v : Value} (h : PtrAt mu id o v) (hm : mu' id = mu id) : PtrAt mu' id o v := by
  obtain ⟨b, h1, h2⟩ := h
  exact ⟨b, by rw [hm]; exact h1, h2⟩

theorem RV.mono {w w' : World} {ok ok' : Nat → Prop} {mu mu' : Nat → Option Nat} {T T' : Tab} {z : Bool} {v : Value} {x : AV} (h : RV w ok mu T z v x)
    (hw : ∀ b, ok b → ok' b ∧ w'.heap[b]? = w.heap[b]?) (hT : z = false → Compat w w' mu mu' T T') : RV w' ok' mu' T' z v x := by
  induction h with
  | top => exact .top _ _
  | tt => exact .tt _
  | ff => exact .ff _
  | bool => exact .bool _ _
  | int => exact .int _ _ _
  | str => exact .str _ _
  | list _ a cap sz n f cv hn hc hs ha hl h1 hv ih =>
    refine .list _ a cap sz n f cv hn hc hs (fun hp => ?_) hl h1 fun i o hi ho => ih i o hi ho (fun e => by cases e)
    obtain ⟨b, off, e, hb, hcell⟩ := ha hp
    refine ⟨b, off, e, (hw b hb).1, fun i o hi ho => ?_⟩
    rw [World.cell?_of_block (w := w) (hw b hb).2]
    exact hcell i o hi ho
  | zsl => exact .zsl _ _
  | nilp => exact .nilp _
  | nilf => exact .nilf _
  | nili => exact .nili _
  | fptr _ b off o cells cv hb ho hc h1 hv ih =>
    refine .fptr _ b off o cells cv (hw b hb).1 ho (fun j hj => ?_) h1 fun j hj => ih j hj (fun e => by cases e)
    rw [World.cell?_of_block (w := w) (hw b hb).2]
    exact hc j hj
  | func _ f cs l hs hv ih => exact .func _ f cs l hs fun j hj => ih j hj hT
  | agg _ cs l hs h1 hv ih => exact .agg _ cs l hs h1 fun j hj => ih j hj hT
  | tuple _ cs l hs hv ih => exact .tuple _ cs l hs fun j hj => ih j hj hT
  | when _ v ps x h h2 ih => exact .when _ v ps x (fun hp => ih hp hT) h2
  | row v sz id ver off len hone h =>
    refine .row v sz id ver off len hone ?_
    obtain ⟨h0, hb0, h1⟩ := h
    obtain ⟨g0, g1, g2⟩ := hT rfl id h0
    refine ⟨g0, fun cells e => ?_, fun sz' n cv f e => ?_⟩
    · obtain ⟨⟨cells0, e0⟩, _⟩ := g1 cells e
      exact hb0 _ e0
    obtain ⟨n0, cv0, f0, e0, hle, hsame⟩ := g2 sz' n cv f e
    obtain ⟨k1, k2⟩ := h1 sz' n0 cv0 f0 e0
    refine ⟨Nat.le_trans k1 hle, fun hv => ?_⟩
    have hcv : cv0 = cv := by omega
    obtain ⟨s1, s2, s3⟩ := hsame hcv
    obtain ⟨r1, r2, r3⟩ := k2 (by omega)
    exact ⟨r1, by omega, r3.same s2 s3⟩
  | ptr v id ver e o hone h =>
    refine .ptr v id ver e o hone ?_
    obtain ⟨h0, hbx, h1⟩ := h
    obtain ⟨g0, g1, g2⟩ := hT rfl id h0
    refine ⟨g0, fun cells ec => ?_, fun sz n cv f er => ?_⟩
    · obtain ⟨⟨cells0, e0⟩, hm⟩ := g1 cells ec
      obtain ⟨r1, r2⟩ := hbx _ e0
      exact ⟨r1, r2.same hm⟩
    · obtain ⟨n0, cv0, f0, e0, hle, hsame⟩ := g2 sz n cv f er
      obtain ⟨k1, k2⟩ := h1 sz n0 cv0 f0 e0
      refine ⟨Nat.le_trans k1 hle, fun hv => ?_⟩
      have hcv : cv0 = cv := by omega
      obtain ⟨s1, s2, s3⟩ := hsame hcv
      obtain ⟨r1, r2⟩ := k2 (by omega)
      exact ⟨by omega, r2.same s2⟩

/-! ### Objects and the state -/

def Ob.live : Ob → Prop
  | .box _ | .row .. => True
  | _ => False

def ObOK (w : World) (ok : Nat → Prop) (mu : Nat → Option Nat) (T : Tab) (id : Nat) : Ob → Prop
  | .fresh | .dead => True
  | .cap k ver C => tget T k ≠ .fresh ∧ ∀ sz n cv f, tget T k = .row sz n cv f → ver ≤ cv ∧ (ver = cv → match mu k with
      | none => C = 0
      | some b => capOf w b = C * sz)
  | .box cells => ∃ b c e, mu id = some b ∧ w.heap[b]? = some (.cells c e (0, 0)) ∧ c.size = cells.length ∧
      (∀ j, j < cells.length → (c.getD j undef).oneCell' = true) ∧ ∀ j, j < cells.length → RV w ok mu T false (c.getD j undef) (lget cells j)
  | .row sz n _ f => 0 < sz ∧ (∀ i, i < n → (f i).length = sz) ∧
      match mu id with
      | none => n = 0
      | some b => ∃ c e C, w.heap[b]? = some (.cells c e (0, 0)) ∧ c.size = C * sz ∧ n ≤ C ∧ C ≤ maxLen ∧
          (∀ i o, i < C → o < sz → (c.getD (i * sz + o) undef).oneCell' = true) ∧ ∀ i o, i < n → o < sz → RV w ok mu T true (c.getD (i * sz + o) undef) (lget (f i) o)

/-- What a call began with: the world; what may be read and stays; what is the caller's and was handed over. -/
structure Ctx where
  w0 : World
  ok0 : Nat → Prop
  live0 : Nat → Prop
  mu0 : Nat → Option Nat
  T0 : Tab

structure Inv (G : Ctx) (ok : Nat → Prop) (mu : Nat → Option Nat) (T : Tab) (w : World) : Prop where
  os : w.os = G.w0.os
  tape : w.tape = G.w0.tape
  output : w.output = G.w0.output
  size : G.w0.heap.size ≤ w.heap.size
  keep : ∀ b, b < G.w0.heap.size → ¬ G.live0 b → w.heap[b]? = G.w0.heap[b]?
  okB : ∀ b, ok b → b < w.heap.size ∧ (G.ok0 b ∨ G.live0 b ∨ G.w0.heap.size ≤ b)
  ok0 : ∀ b, G.ok0 b → ok b
  sep : ∀ i b, mu i = some b → (tget T i).live → ¬ ok b
  inj : ∀ i j b, mu i = some b → mu j = some b → (tget T i).live → (tget T j).live → i = j
  lv : ∀ i b, mu i = some b → (tget T i).live → G.live0 b ∨ G.w0.heap.size ≤ b
  obs : ∀ i, ObOK w ok mu T i (tget T i)
  cmp : Compat G.w0 w G.mu0 mu G.T0 T

def EnvOK (w : World) (ok : Nat → Prop) (mu : Nat → Option Nat) (T : Tab) (env : Env) (tmps : Array Value) : Prop :=
  ∀ i, RV w ok mu T false (tmps.getD i undef) (eget env i)

/-- The state of a call. -/
def Rel (G : Ctx) (nt : Nat) (env : Env) (T : Tab) (a : Act) (w : World) : Prop :=
  (a.defers = [] ∧ G.T0.length ≤ 4) ∧ a.tmps.size = nt ∧ ∃ ok mu, Inv G ok mu T w ∧ EnvOK w ok mu T env a.tmps

/-! ### Tables -/
theorem tget_nil (n : Nat) : tget [] n = .fresh := by unfold tget; rfl
theorem tget_ge : ∀ (T : Tab) (n : Nat), T.length ≤ n → tget T n = .fresh
  | [], n, _ => tget_nil n
  | x :: r, 0, h => by simp at h
  | x :: r, n + 1, h => by simp at h; exact tget_ge r n h
theorem tget_tset_same : ∀ (T : Tab) (n : Nat) (o : Ob), tget (tset T n o) n = o
  | [], 0, _ => rfl
  | [], n + 1, o => by show tget (tset [] n o) n = o; exact tget_tset_same [] n o
  | x :: r, 0, _ => rfl
  | x :: r, n + 1, o => by show tget (tset r n o) n = o; exact tget_tset_same r n o
theorem tget_tset_ne : ∀ (T : Tab) (n m : Nat) (o : Ob), m ≠ n → tget (tset T n o) m = tget T m
  | [], 0, 0, _, h => absurd rfl h
  | [], 0, m + 1, o, _ => by show tget [] m = _; rw [tget_nil, tget_nil]
  | [], n + 1, 0, o, _ => by rw [tget_nil]; rfl
  | [], n + 1, m + 1, o, h => by show tget (tset [] n o) m = _; rw [tget_tset_ne [] n m o (by omega), tget_nil, tget_nil]
  | x :: r, 0, 0, _, h => absurd rfl h
  | x :: r, 0, m + 1, _, _ => rfl
  | x :: r, n + 1, 0, _, _ => rfl
  | x :: r, n + 1, m + 1, o, h => by show tget (tset r n o) m = tget r m; exact tget_tset_ne r n m o (by omega)
theorem tget_tset (T : Tab) (n m : Nat) (o : Ob) : tget (tset T n o) m = if m = n then o else tget T m := by
  split
  · rename_i h; subst h; exact tget_tset_same T m o
  · rename_i h; exact tget_tset_ne T n m o h

theorem lget_ge : ∀ (l : List AV) (n : Nat), l.length ≤ n → lget l n = .top
  | [], n, _ => by unfold lget; rfl
  | x :: r, 0, h => by simp at h
  | x :: r, n + 1, h => by simp at h; exact lget_ge r n h
theorem lset_length : ∀ (l : List AV) (n : Nat) (v : AV), (lset l n v).length = l.length
  | [], n, v => by unfold lset; rfl
  | x :: r, 0, v => rfl
  | x :: r, n + 1, v => by show (lset r n v).length + 1 = _; rw [lset_length r n v]; rfl
theorem lget_lset : ∀ (l : List AV) (n m : Nat) (v : AV), n < l.length → lget (lset l n v) m = if m = n then v else lget l m
  | [], n, m, v, h => by simp at h
  | x :: r, 0, 0, v, _ => rfl
  | x :: r, 0, m + 1, v, _ => by rw [if_neg (by omega)]; rfl
  | x :: r, n + 1, 0, v, _ => by rw [if_neg (by omega)]; rfl
  | x :: r, n + 1, m + 1, v, h => by
    show lget (lset r n v) m = _
    rw [lget_lset r n m v (by simpa using h)]
    by_cases e : m = n
    · subst e; simp
    · rw [if_neg e, if_neg (by omega)]; rfl

theorem eget_cons (i : Nat) (v : AV) (r : Env) (n : Nat) : eget ((i, v) :: r) n = if n = i then v else eget r n := by
  show (bif Nat.beq i n then v else eget r n) = _
  by_cases h : n = i
  · subst h; simp
  · rw [if_neg h]
    have : Nat.beq i n = false := by
      cases hb : Nat.beq i n
      · rfl
      · exact absurd (Nat.eq_of_beq_eq_true hb).symm h
    rw [this]; rfl

end Go.Proofs.Ytbpcjahjbkiofaa.AV

set_option linter.unusedVariables false
set_option linter.unusedSimpArgs false
namespace Go.Proofs.Ytbpcjahjbkiofaa.AV
open Go

theorem ObOK.mono {w w' : World} {ok ok' : Nat → Prop} {mu mu' : Nat → Option Nat} {T T' : Tab} {id : Nat} {o : Ob} (h : ObOK w ok mu T id o)
    (hw : ∀ b, ok b → ok' b ∧ w'.heap[b]? = w.heap[b]?) (hT : Compat w w' mu mu' T T') (hm : mu' id = mu id) (hb : ∀ b, mu id = some b → o.live → w'.heap[b]? = w.heap[b]?) :
    ObOK w' ok' mu' T' id o := by
  cases o with
  | fresh => trivial
  | dead => trivial
  | cap k ver C =>
    obtain ⟨h1, h2⟩ := h
    obtain ⟨g1, _, g3⟩ := hT k h1
    refine ⟨g1, fun sz n cv f e => ?_⟩
    obtain ⟨n0, cv0, f0, e0, hle, hs⟩ := g3 sz n cv f e
    obtain ⟨k1, k2⟩ := h2 sz n0 cv0 f0 e0
    refine ⟨Nat.le_trans k1 hle, fun hv => ?_⟩
    obtain ⟨_, s2, s3⟩ := hs (by omega)
    have k3 := k2 (by omega)
    rw [s2]
    cases hb' : mu k with
    | none => rw [hb'] at k3; exact k3
    | some b => rw [hb'] at k3; exact (s3 b hb').trans k3
  | box cells =>
    obtain ⟨b, c, e, h1, h2, h3, h4, h5⟩ := h
    exact ⟨b, c, e, by rw [hm]; exact h1, by rw [hb b h1 trivial]; exact h2, h3, h4, fun j hj => (h5 j hj).mono hw fun _ => hT⟩
  | row sz n ver f =>
    obtain ⟨h1, h2, h3⟩ := h
    refine ⟨h1, h2, ?_⟩
    rw [hm]
    cases hmu : mu id with
    | none => rw [hmu] at h3; exact h3
    | some b =>
      rw [hmu] at h3
      obtain ⟨c, e, C, g1, g2, g3, g4, g5, g6⟩ := h3
      exact ⟨c, e, C, by rw [hb b hmu trivial]; exact g1, g2, g3, g4, g5, fun i o hi ho => (g6 i o hi ho).mono hw fun e => by cases e⟩

/-- What changed, and how: from one state to the next. -/
structure Next (ok ok' : Nat → Prop) (mu mu' : Nat → Option Nat) (T T' : Tab) (w w' : World) : Prop where
  os : w'.os = w.os
  tape : w'.tape = w.tape
  output : w'.output = w.output
  size : w.heap.size ≤ w'.heap.size
  keep : ∀ b, b < w.heap.size → (∀ i, mu i = some b → ¬ (tget T i).live) → w'.heap[b]? = w.heap[b]?
  compat : Compat w w' mu mu' T T'
  okL : ∀ b, ok b → ok' b
  okR : ∀ b, ok' b → b < w'.heap.size ∧ (ok b ∨ (∃ i, mu i = some b ∧ (tget T i).live) ∨ w.heap.size ≤ b)
  live : ∀ i b, mu' i = some b → (tget T' i).live → ¬ ok' b ∧ ((∃ j, mu j = some b ∧ (tget T j).live) ∨ w.heap.size ≤ b)
  inj : ∀ i j b, mu' i = some b → mu' j = some b → (tget T' i).live → (tget T' j).live → i = j
  obs : ∀ i, ObOK w' ok' mu' T' i (tget T' i)

theorem Next.hw {G : Ctx} {ok ok' : Nat → Prop} {mu mu' : Nat → Option Nat} {T T' : Tab} {w w' : World} (I : Inv G ok mu T w) (N : Next ok ok' mu mu' T T' w w') :
    ∀ b, ok b → ok' b ∧ w'.heap[b]? = w.heap[b]? := fun b hb =>
  ⟨N.okL b hb, N.keep b (I.okB b hb).1 fun i hi hl => I.sep i b hi hl hb⟩

theorem Inv.next {G : Ctx} {ok ok' : Nat → Prop} {mu mu' : Nat → Option Nat} {T T' : Tab} {w w' : World} (I : Inv G ok mu T w) (N : Next ok ok' mu mu' T T' w w') :
    Inv G ok' mu' T' w' where
  os := N.os.trans I.os
  tape := N.tape.trans I.tape
  output := N.output.trans I.output
  size := Nat.le_trans I.size N.size
  keep b hb hl := by
    rw [N.keep b (Nat.lt_of_lt_of_le hb I.size) fun i hi hli => ?_]
    · exact I.keep b hb hl
    · rcases I.lv i b hi hli with h | h
      · exact hl h
      · omega
  okB b hb := by
    obtain ⟨h1, h2⟩ := N.okR b hb
    refine ⟨h1, ?_⟩
    rcases h2 with h | ⟨i, hi, hl⟩ | h
    · exact (I.okB b h).2
    · rcases I.lv i b hi hl with g | g
      · exact .inr (.inl g)
      · exact .inr (.inr g)
    · exact .inr (.inr (Nat.le_trans I.size h))
  ok0 b hb := N.okL b (I.ok0 b hb)
  sep i b hi hl := (N.live i b hi hl).1
  inj := N.inj
  cmp := I.cmp.trans N.compat
  lv i b hi hl := by
    rcases (N.live i b hi hl).2 with ⟨j, hj, hlj⟩ | h
    · exact I.lv j b hj hlj
    · exact .inr (Nat.le_trans I.size h)
  obs := N.obs

theorem Next.rv {G : Ctx} {ok ok' : Nat → Prop} {mu mu' : Nat → Option Nat} {T T' : Tab} {w w' : World} (I : Inv G ok mu T w) (N : Next ok ok' mu mu' T T' w w') {z : Bool} {v : Value} {x : AV}
    (h : RV w ok mu T z v x) : RV w' ok' mu' T' z v x := h.mono (N.hw I) fun _ => N.compat

theorem Next.env {G : Ctx} {ok ok' : Nat → Prop} {mu mu' : Nat → Option Nat} {T T' : Tab} {w w' : World} (I : Inv G ok mu T w) (N : Next ok ok' mu mu' T T' w w') {env : Env} {tmps : Array Value}
    (h : EnvOK w ok mu T env tmps) : EnvOK w' ok' mu' T' env tmps := fun i => N.rv I (h i)

theorem Compat.refl (w : World) (mu : Nat → Option Nat) (T : Tab) : Compat w w mu mu T T := fun id h =>
  ⟨h, fun cells e => ⟨⟨cells, e⟩, rfl⟩, fun sz n cv f e => ⟨n, cv, f, e, Nat.le_refl _, fun _ => ⟨Nat.le_refl _, rfl, fun _ _ => rfl⟩⟩⟩

/-- Only counts of draws have changed. -/
theorem Next.same {G : Ctx} {ok : Nat → Prop} {mu : Nat → Option Nat} {T : Tab} {w w' : World} (I : Inv G ok mu T w) (h1 : w'.heap = w.heap) (h2 : w'.os = w.os) (h3 : w'.tape = w.tape) (h4 : w'.output = w.output) :
    Next ok ok mu mu T T w w' where
  os := h2
  tape := h3
  output := h4
  size := by rw [h1]; exact Nat.le_refl _
  keep b _ _ := by rw [h1]
  compat id h := ⟨h, fun cells e => ⟨⟨cells, e⟩, rfl⟩, fun sz n cv f e => ⟨n, cv, f, e, Nat.le_refl _, fun _ => ⟨Nat.le_refl _, rfl, fun b _ => by unfold capOf; rw [h1]⟩⟩⟩
  okL _ h := h
  okR b h := ⟨by rw [h1]; exact (I.okB b h).1, .inl h⟩
  live i b hi hl := ⟨I.sep i b hi hl, .inl ⟨i, hi, hl⟩⟩
  inj := I.inj
  obs i := (I.obs i).mono (fun b hb => ⟨hb, by rw [h1]⟩) (fun id h => ⟨h, fun cells e => ⟨⟨cells, e⟩, rfl⟩, fun sz n cv f e => ⟨n, cv, f, e, Nat.le_refl _, fun _ => ⟨Nat.le_refl _, rfl, fun b _ => by unfold capOf; rw [h1]⟩⟩⟩) rfl fun _ _ _ => by rw [h1]

def muSet (mu : Nat → Option Nat) (id : Nat) (b : Option Nat) : Nat → Option Nat := fun i => if i = id then b else mu i
theorem muSet_same (mu : Nat → Option Nat) (id : Nat) (b : Option Nat) : muSet mu id b id = b := by simp [muSet]
theorem muSet_ne (mu : Nat → Option Nat) (id : Nat) (b : Option Nat) {i : Nat} (h : i ≠ id) : muSet mu id b i = mu i := by simp [muSet, h]

theorem heap_alloc_lt (w : World) (o : Obj) {b : Nat} (h : b < w.heap.size) : (w.alloc o).heap[b]? = w.heap[b]? := heap_alloc_old w o b h

theorem Compat.alloc {w : World} {mu : Nat → Option Nat} {T : Tab} {id : Nat} (hf : tget T id = .fresh) (o : Obj) (b : Option Nat) (ob : Ob) (hno : ob ≠ .fresh)
    (hmu : ∀ i b, mu i = some b → (tget T i).live → b < w.heap.size) : Compat w (w.alloc o) mu (muSet mu id b) T (tset T id ob) := by
  intro i hi
  have hne : i ≠ id := fun e => hi (by rw [e]; exact hf)
  rw [tget_tset_ne _ _ _ _ hne, muSet_ne _ _ _ hne]
  refine ⟨hi, fun cells e => ⟨⟨cells, e⟩, rfl⟩, fun sz n cv f e => ⟨n, cv, f, e, Nat.le_refl _, fun _ => ⟨Nat.le_refl _, rfl, fun b hb => ?_⟩⟩⟩
  unfold capOf
  rw [heap_alloc_lt w o (hmu i b hb (by rw [e]; trivial))]

theorem Inv.mu_lt {G : Ctx} {ok : Nat → Prop} {mu : Nat → Option Nat} {T : Tab} {w : World} (I : Inv G ok mu T w) : ∀ i b, mu i = some b → (tget T i).live → b < w.heap.size := by
  intro i b hb hl
  have h := I.obs i
  revert h hl
  cases tget T i with
  | fresh => intro h _; exact h.elim
  | dead => intro h _; exact h.elim
  | cap => intro h _; exact h.elim
  | box cells =>
    intro _ h
    obtain ⟨b', c, e, h1, h2, _⟩ := h
    rw [hb] at h1
    cases h1
    exact (Array.getElem?_eq_some_iff.1 h2).1
  | row sz n ver f =>
    intro _ h
    obtain ⟨_, _, h3⟩ := h
    rw [hb] at h3
    obtain ⟨c, e, C, h2, _⟩ := h3
    exact (Array.getElem?_eq_some_iff.1 h2).1

/-- A new object in a new block. -/
theorem Next.alloc {G : Ctx} {ok : Nat → Prop} {mu : Nat → Option Nat} {T : Tab} {w : World} (I : Inv G ok mu T w) {id : Nat} (hf : tget T id = .fresh) (c : Array Value) (e : TypeId) (ob : Ob) (hl : ob.live)
    (hob : ∀ (w' : World) (mu' : Nat → Option Nat) (T' : Tab), w' = w.alloc (.cells c e) → mu' = muSet mu id (some w.heap.size) → T' = tset T id ob →
      (∀ z v x, RV w ok mu T z v x → RV w' ok mu' T' z v x) → mu' id = some w.heap.size → w'.heap[w.heap.size]? = some (.cells c e (0, 0)) → ObOK w' ok mu' T' id ob) :
    Next ok ok mu (muSet mu id (some w.heap.size)) T (tset T id ob) w (w.alloc (.cells c e)) := by
  have hno : ob ≠ .fresh := by intro h; rw [h] at hl; exact hl
  have hC := Compat.alloc (w := w) (mu := mu) hf (.cells c e) (some w.heap.size) ob hno I.mu_lt
  have hw : ∀ b, ok b → ok b ∧ (w.alloc (.cells c e)).heap[b]? = w.heap[b]? := fun b hb => ⟨hb, heap_alloc_lt w _ (I.okB b hb).1⟩
  refine ⟨rfl, rfl, rfl, by simp, fun b hb _ => heap_alloc_lt w _ hb, hC, fun _ h => h, fun b hb => ⟨by have := (I.okB b hb).1; simp; omega, .inl hb⟩, ?_, ?_, ?_⟩
  · intro i b hi hli
    by_cases h : i = id
    · subst h
      rw [muSet_same] at hi
      cases hi
      exact ⟨fun h => by have := (I.okB _ h).1; omega, .inr (Nat.le_refl _)⟩
    · rw [muSet_ne _ _ _ h] at hi
      rw [tget_tset_ne _ _ _ _ h] at hli
      exact ⟨I.sep i b hi hli, .inl ⟨i, hi, hli⟩⟩
  · intro i j b hi hj hli hlj
    by_cases h : i = id
    · by_cases h' : j = id
      · omega
      · subst h
        rw [muSet_same] at hi
        rw [muSet_ne _ _ _ h'] at hj
        rw [tget_tset_ne _ _ _ _ h'] at hlj
        cases hi
        have := I.mu_lt j _ hj hlj
        omega
    · rw [muSet_ne _ _ _ h] at hi
      rw [tget_tset_ne _ _ _ _ h] at hli
      by_cases h' : j = id
      · subst h'
        rw [muSet_same] at hj
        cases hj
        have := I.mu_lt i _ hi hli
        omega
      · rw [muSet_ne _ _ _ h'] at hj
        rw [tget_tset_ne _ _ _ _ h'] at hlj
        exact I.inj i j b hi hj hli hlj
  · intro i
    by_cases h : i = id
    · subst h
      rw [tget_tset_same]
      exact hob _ _ _ rfl rfl rfl (fun z v x hx => hx.mono hw fun _ => hC) (muSet_same _ _ _) (heap_alloc_new w _)
    · rw [tget_tset_ne _ _ _ _ h]
      exact (I.obs i).mono hw hC (muSet_ne _ _ _ h) fun b hb hl' => heap_alloc_lt w _ (I.mu_lt i b hb hl')

/-- A new block that may be read from now on, and stays. -/
theorem Next.allocF {G : Ctx} {ok : Nat → Prop} {mu : Nat → Option Nat} {T : Tab} {w : World} (I : Inv G ok mu T w) (c : Array Value) (e : TypeId) :
    Next ok (fun b => ok b ∨ b = w.heap.size) mu mu T T w (w.alloc (.cells c e)) := by
  have hC : Compat w (w.alloc (.cells c e)) mu mu T T := fun i hi => ⟨hi, fun cells e => ⟨⟨cells, e⟩, rfl⟩, fun sz n cv f e => ⟨n, cv, f, e, Nat.le_refl _, fun _ => ⟨Nat.le_refl _, rfl, fun b hb => by
    unfold capOf; rw [heap_alloc_lt w _ (I.mu_lt i b hb (by rw [e]; trivial))]⟩⟩⟩
  have hw : ∀ b, ok b → (ok b ∨ b = w.heap.size) ∧ (w.alloc (.cells c e)).heap[b]? = w.heap[b]? := fun b hb => ⟨.inl hb, heap_alloc_lt w _ (I.okB b hb).1⟩
  refine ⟨rfl, rfl, rfl, by simp, fun b hb _ => heap_alloc_lt w _ hb, hC, fun _ h => .inl h, fun b hb => ?_, fun i b hi hl => ⟨fun h => ?_, .inl ⟨i, hi, hl⟩⟩, I.inj, fun i => (I.obs i).mono hw hC rfl fun b hb hl => heap_alloc_lt w _ (I.mu_lt i b hb hl)⟩
  · rcases hb with h | h
    · exact ⟨by have := (I.okB b h).1; simp; omega, .inl h⟩
    · exact ⟨by simp; omega, .inr (.inr (by omega))⟩
  · rcases h with h | h
    · exact I.sep i b hi hl h
    · have := I.mu_lt i b hi hl; omega

/-- An object of the call's own is written, in its own block; the block keeps its size. -/
theorem Next.write {G : Ctx} {ok : Nat → Prop} {mu : Nat → Option Nat} {T : Tab} {w w' : World} (I : Inv G ok mu T w) {id b : Nat} (hmu : mu id = some b) (hl : (tget T id).live) (ob : Ob) (hl' : ob.live)
    (h1 : w'.os = w.os) (h2 : w'.tape = w.tape) (h3 : w'.output = w.output) (h4 : w'.heap.size = w.heap.size) (h5 : ∀ k, k ≠ b → w'.heap[k]? = w.heap[k]?) (h6 : capOf w' b = capOf w b)
    (hbx : ∀ cells', ob = .box cells' → ∃ cells, tget T id = .box cells)
    (hrw : ∀ sz n' cv' f', ob = .row sz n' cv' f' → ∃ n cv f, tget T id = .row sz n cv f ∧ cv ≤ cv' ∧ n ≤ n')
    (hob : ∀ (T' : Tab), T' = tset T id ob → (∀ z v x, RV w ok mu T z v x → RV w' ok mu T' z v x) → ObOK w' ok mu T' id ob) :
    Next ok ok mu mu T (tset T id ob) w w' := by
  have hno : ob ≠ .fresh := by intro h; rw [h] at hl'; exact hl'
  have hcap : ∀ b', capOf w' b' = capOf w b' := fun b' => by
    by_cases h : b' = b
    · rw [h]; exact h6
    · unfold capOf; rw [h5 b' h]
  have hC : Compat w w' mu mu T (tset T id ob) := by
    intro i hi
    by_cases h : i = id
    · subst h
      rw [tget_tset_same]
      refine ⟨hno, fun cells' e => ⟨hbx cells' e, rfl⟩, fun sz n' cv' f' e => ?_⟩
      obtain ⟨n, cv, f, g1, g2, g3⟩ := hrw sz n' cv' f' e
      exact ⟨n, cv, f, g1, g2, fun _ => ⟨g3, rfl, fun b' _ => hcap b'⟩⟩
    · rw [tget_tset_ne _ _ _ _ h]
      exact ⟨hi, fun cells e => ⟨⟨cells, e⟩, rfl⟩, fun sz n cv f e => ⟨n, cv, f, e, Nat.le_refl _, fun _ => ⟨Nat.le_refl _, rfl, fun b' _ => hcap b'⟩⟩⟩
  have hw : ∀ k, ok k → ok k ∧ w'.heap[k]? = w.heap[k]? := fun k hk => ⟨hk, h5 k fun e => I.sep id b hmu hl (e ▸ hk)⟩
  refine ⟨h1, h2, h3, by omega, fun k _ hk => h5 k fun e => hk id (e ▸ hmu) hl, hC, fun _ h => h, fun k hk => ⟨by have := (I.okB k hk).1; omega, .inl hk⟩, ?_, ?_, ?_⟩
  · intro i k hi hli
    by_cases h : i = id
    · subst h
      exact ⟨I.sep i k hi hl, .inl ⟨i, hi, hl⟩⟩
    · rw [tget_tset_ne _ _ _ _ h] at hli
      exact ⟨I.sep i k hi hli, .inl ⟨i, hi, hli⟩⟩
  · intro i j k hi hj hli hlj
    refine I.inj i j k hi hj ?_ ?_
    · by_cases h : i = id
      · rw [h]; exact hl
      · rwa [tget_tset_ne _ _ _ _ h] at hli
    · by_cases h : j = id
      · rw [h]; exact hl
      · rwa [tget_tset_ne _ _ _ _ h] at hlj
  · intro i
    by_cases h : i = id
    · subst h
      rw [tget_tset_same]
      exact hob _ rfl fun z v x hx => hx.mono hw fun _ => hC
    · rw [tget_tset_ne _ _ _ _ h]
      exact (I.obs i).mono hw hC rfl fun k hk hlk => h5 k fun e => h (I.inj i id b (e ▸ hk) hmu hlk hl)

end Go.Proofs.Ytbpcjahjbkiofaa.AV

set_option linter.unusedVariables false
set_option linter.unusedSimpArgs false
namespace Go.Proofs.Ytbpcjahjbkiofaa.AV
open Go

def ofV : Value → AV
  | .bool true => .tt
  | .bool false => .ff
  | .int k n => .int k n
  | .string s => .str s
  | .slice none 0 0 => .zsl
  | .pointer none => .nilp
  | .nilFunc => .nilf
  | .nilIface => .nili
  | .func (.func f) ⟨[]⟩ ⟨[]⟩ => .func f []
  | _ => .top

def oval (env : Env) : Opd → AV
  | .t n => eget env n
  | .c v => ofV v

def cellsV : AV → Option (List AV)
  | .agg l => some l
  | .top => none
  | .tuple _ => none
  | .when _ _ => none
  | v => some [v]

def noRef : AV → Bool
  | .row .. => false
  | .ptr .. => false
  | .func _ [] => true
  | .func _ _ => false
  | .agg _ => false
  | .tuple _ => false
  | .when _ _ => false
  | _ => true

def noRefs : List AV → Bool
  | [] => true
  | x :: r => noRef x && noRefs r

def lsets (l : List AV) (o : Nat) (vs : List AV) : List AV :=
  match vs with
  | [] => l
  | v :: r => lsets (lset l o v) (o + 1) r

def lextr (l : List AV) (o : Nat) (n : Nat) : List AV :=
  match n with
  | 0 => []
  | n + 1 => lget l o :: lextr l (o + 1) n

def rdRow (l : List AV) (o sz : Nat) (agg : Bool) (len : Nat) : Option AV :=
  match agg with
  | true => bif Nat.ble (o + sz) len then some (.agg (lextr l o sz)) else none
  | false => bif Nat.blt o len then some (lget l o) else none

def rdCells (l : List AV) (o sz : Nat) (agg : Bool) : Option AV := rdRow l o sz agg l.length

def boolOf : AV → Option Bool
  | .tt => some true
  | .ff => some false
  | .bool b => some b
  | _ => none

def intBin (op : BinOp) (k : IntKind) (x y : Int) : Option AV :=
  match op with
  | .add => some (.int k (k.wrap (x + y)))
  | .sub => some (.int k (k.wrap (x - y)))
  | .mul => some (.int k (k.wrap (x * y)))
  | .lss => some (.bool (decide (x < y)))
  | .leq => some (.bool (decide (x ≤ y)))
  | .gtr => some (.bool (decide (x > y)))
  | .geq => some (.bool (decide (x ≥ y)))
  | .eql => some (.bool (x == y))
  | .neq => some (.bool (x != y))
  | .and => some (.int k (k.wrap (BitVec.ofInt k.bits x &&& BitVec.ofInt k.bits y).toNat))
  | .or => some (.int k (k.wrap (BitVec.ofInt k.bits x ||| BitVec.ofInt k.bits y).toNat))
  | .xor => some (.int k (k.wrap (BitVec.ofInt k.bits x ^^^ BitVec.ofInt k.bits y).toNat))
  | .andNot => some (.int k (k.wrap (BitVec.ofInt k.bits x &&& ~~~(BitVec.ofInt k.bits y)).toNat))
  | _ => none

def kindEq : IntKind → IntKind → Bool
  | .i8, .i8 | .i16, .i16 | .i32, .i32 | .i64, .i64 | .u8, .u8 | .u16, .u16 | .u32, .u32 | .u64, .u64 => true
  | _, _ => false

def eqCell (k : Nat) (x y : AV) : Option Bool :=
  match k with
  | 0 => match boolOf x, boolOf y with
    | some a, some b => some (a == b)
    | _, _ => none
  | 1 => match x, y with
    | .int k a, .int j b => bif kindEq k j then some (a == b) else none
    | _, _ => none
  | 2 => match x, y with
    | .str a, .str b => some (a == b)
    | _, _ => none
  | _ => none

def eqCells (l m : List AV) : List (Nat × Nat) → Option Bool
  | [] => some true
  | (o, k) :: r => match eqCell k (lget l o) (lget m o), eqCells l m r with
    | some a, some b => some (a && b)
    | _, _ => none

def tf : Bool → AV
  | true => .tt
  | false => .ff

def negB (n b : Bool) : Bool := match n with
  | true => !b
  | false => b

def vals (env : Env) : List Opd → List AV
  | [] => []
  | x :: r => oval env x :: vals env r

def partsV (env : Env) (sz : Nat) : List Opd → Option (List (List AV))
  | [] => some []
  | x :: r => match cellsV (oval env x), partsV env sz r with
    | some l, some b => bif Nat.beq l.length sz && noRefs l then some (l :: b) else none
    | _, _ => none

def nthL (l : List (List AV)) (i : Nat) : List AV :=
  match l with
  | [] => []
  | x :: r => match i with
    | 0 => x
    | i + 1 => nthL r i

def bldV (env : Env) (cells : List AV) : List (Nat × Nat × Opd) → Option (List AV)
  | [] => some cells
  | (o, sz, x) :: r => match cellsV (oval env x) with
    | some l => bif Nat.beq l.length sz && Nat.ble (o + sz) cells.length then bldV env (lsets cells o l) r else none
    | none => none

def opV (p : AOp) (env : Env) (T : Tab) (nid : Nat) : Option (AV × Option (Nat × Ob)) :=
  match p with
  | .mv x => some (oval env x, none)
  | .pick c a b => match oval env c with
    | .tt => some (oval env a, none)
    | .ff => some (oval env b, none)
    | .bool c => match boolOf (oval env a), boolOf (oval env b) with
      | some p, some q => some (.bool (bif c then p else q), none)
      | _, _ => none
    | _ => none
  | .alloc z => some (.ptr nid 0 0 0, some (nid, .box (z.map ofV)))
  | .allocA n z => some (.ptr nid 0 0 0, some (nid, .row 1 n 0 (fun _ => [ofV z])))
  | .box x => match cellsV (oval env x) with
    | some l => some (.ptr nid 0 0 0, some (nid, .box l))
    | none => none
  | .ld sz agg x => match oval env x with
    | .ptr id ver e o => match tget T id with
      | .box cells => match rdCells cells o sz agg with
        | some v => some (v, none)
        | none => none
      | .row sz' _ cv f => bif Nat.beq ver cv then
          (match rdRow (f e) o sz agg sz' with
          | some v => some (v, none)
          | none => none) else none
      | _ => none
    | .fptr cells o => match rdCells cells o sz agg with
      | some v => some (v, none)
      | none => none
    | _ => none
  | .st sz x v => match oval env x with
    | .ptr id ver e o => match cellsV (oval env v) with
      | some l => match tget T id with
        | .box cells => bif Nat.beq l.length sz && Nat.ble (o + sz) cells.length then some (.top, some (id, .box (lsets cells o l))) else none
        | .row sz' n cv f => bif Nat.beq ver cv && Nat.beq l.length sz && Nat.ble (o + sz) sz' && noRefs l then
            some (.top, some (id, .row sz' n cv (fun i => bif Nat.beq i e then lsets (f i) o l else f i))) else none
        | _ => none
      | none => none
    | _ => none
  | .nilc x => match oval env x with
    | .ptr id ver e o => match tget T id with
      | .box _ => some (.ptr id ver e o, none)
      | .row _ _ cv _ => bif Nat.beq ver cv then some (.ptr id ver e o, none) else none
      | _ => none
    | .fptr cells o => some (.fptr cells o, none)
    | _ => none
  | .bin op x y => match oval env x, oval env y with
    | .int k a, .int j b => bif kindEq k j then (match intBin op k a b with
      | some v => some (v, none)
      | none => none) else none
    | _, _ => none
  | .binB n x y => match boolOf (oval env x), boolOf (oval env y) with
    | some a, some b => some (.bool (negB n (a == b)), none)
    | _, _ => none
  | .binS n x y => match oval env x, oval env y with
    | .str a, .str b => some (.bool (negB n (a.toList == b.toList)), none)
    | _, _ => none
  | .eqA n size offs x y => match oval env x, oval env y with
    | .agg l, .agg m => bif Nat.beq l.length size && Nat.beq m.length size then (match eqCells l m offs with
      | some b => some (.bool (negB n b), none)
      | none => none) else none
    | _, _ => none
  | .eqNilP n x => match oval env x with
    | .ptr id ver e o => match tget T id with
      | .box _ => some (tf n, none)
      | .row _ _ cv _ => bif Nat.beq ver cv then some (tf n, none) else none
      | _ => none
    | .fptr _ _ => some (tf n, none)
    | .nilp => some (tf (!n), none)
    | _ => none
  | .not x => match oval env x with
    | .tt => some (.ff, none)
    | .ff => some (.tt, none)
    | .bool b => some (.bool (!b), none)
    | _ => none
  | .neg x => match oval env x with
    | .int k n => some (.int k (k.wrap (0 - n)), none)
    | _ => none
  | .fa off x => match oval env x with
    | .ptr id ver e o => match tget T id with
      | .box _ => some (.ptr id ver e (o + off), none)
      | .row _ _ cv _ => bif Nat.beq ver cv then some (.ptr id ver e (o + off), none) else none
      | _ => none
    | .fptr cells o => bif Nat.ble (o + off) cells.length then some (.fptr cells (o + off), none) else none
    | _ => none
  | .fld off sz agg x => match oval env x with
    | .agg l => match rdCells l off sz agg with
      | some v => some (v, none)
      | none => none
    | _ => none
  | .bld z parts => match bldV env (z.map ofV) parts with
    | some l => some (.agg l, none)
    | none => none
  | .bsl sz parts => match partsV env sz parts with
    | some ls => some (.row sz nid 0 0 parts.length, some (nid, .row sz parts.length 0 (nthL ls)))
    | none => none
  | .bslF sz parts => match partsV env sz parts with
    | some ls => some (.list sz parts.length (nthL ls), none)
    | none => none
  | .ext n x => match oval env x with
    | .tuple l => bif Nat.blt n l.length then some (lget l n, none) else none
    | _ => none
  | .cvI k x => match oval env x with
    | .int _ n => some (.int k (k.wrap n), none)
    | _ => none
  | .fn f cap => some (.func f (vals env cap), none)
  | .len x => match oval env x with
    | .list _ n _ => some (.int .i64 n, none)
    | .zsl => some (.int .i64 0, none)
    | .row _ _ _ _ len => some (.int .i64 len, none)
    | _ => none
  | .lenS x => match oval env x with
    | .str s => some (.int .i64 s.size, none)
    | _ => none
  | .mnmx mx x y => match oval env x, oval env y with
    | .int k a, .int _ b => some (.int k (match mx with | true => if b > a then b else a | false => if b < a then b else a), none)
    | _, _ => none
  | _ => none

def tupd (T : Tab) (u : Option (Nat × Ob)) : Tab := match u with
  | none => T
  | some (id, o) => tset T id o

/-! ### Lemmas on lists of cells -/
theorem lextr_length : ∀ (n : Nat) (l : List AV) (o : Nat), (lextr l o n).length = n
  | 0, _, _ => rfl
  | n + 1, l, o => by show (lextr l (o + 1) n).length + 1 = _; rw [lextr_length n l (o + 1)]
theorem lget_lextr : ∀ (n : Nat) (l : List AV) (o j : Nat), j < n → lget (lextr l o n) j = lget l (o + j)
  | 0, _, _, _, h => absurd h (Nat.not_lt_zero _)
  | n + 1, l, o, 0, _ => rfl
  | n + 1, l, o, j + 1, h => by
    show lget (lextr l (o + 1) n) j = _
    rw [lget_lextr n l (o + 1) j (by omega), Nat.add_assoc, Nat.add_comm 1 j]
theorem lsets_length : ∀ (vs l : List AV) (o : Nat), (lsets l o vs).length = l.length
  | [], _, _ => rfl
  | v :: r, l, o => by show (lsets (lset l o v) (o + 1) r).length = _; rw [lsets_length r _ _, lset_length]
theorem lget_lsets : ∀ (vs l : List AV) (o j : Nat), o + vs.length ≤ l.length → lget (lsets l o vs) j = if o ≤ j ∧ j < o + vs.length then lget vs (j - o) else lget l j
  | [], l, o, j, _ => by rw [if_neg (by simp only [List.length_nil]; omega)]; rfl
  | v :: r, l, o, j, h => by
    show lget (lsets (lset l o v) (o + 1) r) j = _
    simp only [List.length_cons] at h
    rw [lget_lsets r _ _ _ (by rw [lset_length]; omega), lget_lset _ _ _ _ (by omega)]
    simp only [List.length_cons]
    by_cases h1 : j = o
    · subst h1
      rw [if_neg (by omega), if_pos rfl, if_pos (by omega), Nat.sub_self]
      rfl
    · by_cases h2 : o + 1 ≤ j ∧ j < o + 1 + r.length
      · rw [if_pos h2, if_pos (by omega), show j - o = (j - (o + 1)) + 1 by omega]
        rfl
      · rw [if_neg h2, if_neg h1, if_neg (by omega)]

theorem lget_map (g : Value → AV) : ∀ (l : List Value) (j : Nat), j < l.length → lget (l.map g) j = g (l.getD j undef)
  | [], _, h => by simp at h
  | x :: r, 0, _ => rfl
  | x :: r, j + 1, h => by
    show lget (r.map g) j = _
    rw [lget_map g r j (by simpa using h)]
    rfl

theorem noRefs_get : ∀ (l : List AV) (j : Nat), noRefs l = true → noRef (lget l j) = true
  | [], _, _ => by unfold lget; rfl
  | x :: r, 0, h => by simp only [noRefs, Bool.and_eq_true] at h; exact h.1
  | x :: r, j + 1, h => by simp only [noRefs, Bool.and_eq_true] at h; exact noRefs_get r j h.2

section
variable {w : World} {ok : Nat → Prop} {mu : Nat → Option Nat} {T : Tab}

theorem RV.freeze {z : Bool} {v : Value} {x : AV} (h : RV w ok mu T z v x) (hx : noRef x = true) : RV w ok mu T true v x := by
  cases h with
  | top => exact .top _ _
  | tt => exact .tt _
  | ff => exact .ff _
  | bool => exact .bool _ _
  | int => exact .int _ _ _
  | str => exact .str _ _
  | list _ a cap sz n f cv hn hc hs ha hl h1 hv => exact .list _ a cap sz n f cv hn hc hs ha hl h1 hv
  | zsl => exact .zsl _ _
  | nilp => exact .nilp _
  | nilf => exact .nilf _
  | nili => exact .nili _
  | fptr _ b off o cells cv hb ho hc h1 hv => exact .fptr _ b off o cells cv hb ho hc h1 hv
  | func _ f cs l hs hv =>
    cases l with
    | nil => exact .func _ f cs [] hs fun j hj => by simp at hj
    | cons => simp [noRef] at hx
  | agg => simp [noRef] at hx
  | tuple => simp [noRef] at hx
  | when => simp [noRef] at hx
  | row => simp [noRef] at hx
  | ptr => simp [noRef] at hx

theorem ofV_rv (z : Bool) (v : Value) : RV w ok mu T z v (ofV v) := by
  unfold ofV
  split
  · exact .tt _
  · exact .ff _
  · exact .int _ _ _
  · exact .str _ _
  · exact .zsl _ _
  · exact .nilp _
  · exact .nilf _
  · exact .nili _
  · exact .func _ _ _ _ rfl fun j hj => by simp at hj
  · exact .top _ _

theorem plainV_oneCell {v : Value} (h : plainV v = true) : v.oneCell' = true := by
  unfold plainV at h
  split at h <;> first | rfl | simp at h

theorem cells_one {v : Value} (h : v.oneCell' = true) : v.cells = #[v] := by
  cases v <;> first | rfl | simp [Value.oneCell'] at h

/-- A value that has cells: these, one by one. -/
theorem RV.cells {z : Bool} {v : Value} {x : AV} {l : List AV} (h : RV w ok mu T z v x) (hl : cellsV x = some l) :
    v.cells.size = l.length ∧ (∀ j, j < l.length → (v.cells.getD j undef).oneCell' = true) ∧ ∀ j, j < l.length → RV w ok mu T z (v.cells.getD j undef) (lget l j) := by
  have one : ∀ (v : Value) (x : AV), v.cells = #[v] → v.oneCell' = true → RV w ok mu T z v x → l = [x] →
      v.cells.size = l.length ∧ (∀ j, j < l.length → (v.cells.getD j undef).oneCell' = true) ∧ ∀ j, j < l.length → RV w ok mu T z (v.cells.getD j undef) (lget l j) := by
    intro v x hc h1 hv e
    subst e
    rw [hc]
    refine ⟨rfl, fun j hj => ?_, fun j hj => ?_⟩
    · obtain rfl : j = 0 := by simpa using hj
      exact h1
    · obtain rfl : j = 0 := by simpa using hj
      exact hv
  cases h with
  | top => simp [cellsV] at hl
  | tt => exact one _ _ rfl rfl (.tt _) (by simpa [cellsV] using hl.symm)
  | ff => exact one _ _ rfl rfl (.ff _) (by simpa [cellsV] using hl.symm)
  | bool _ b => exact one _ _ rfl rfl (.bool _ _) (by simpa [cellsV] using hl.symm)
  | int _ k n => exact one _ _ rfl rfl (.int _ _ _) (by simpa [cellsV] using hl.symm)
  | str _ s => exact one _ _ rfl rfl (.str _ _) (by simpa [cellsV] using hl.symm)
  | list _ a cap sz n f cv hn hc hs ha hl' h1 hv => exact one _ _ rfl rfl (.list _ a cap sz n f cv hn hc hs ha hl' h1 hv) (by simpa [cellsV] using hl.symm)
  | zsl _ a => exact one _ _ rfl rfl (.zsl _ _) (by simpa [cellsV] using hl.symm)
  | nilp => exact one _ _ rfl rfl (.nilp _) (by simpa [cellsV] using hl.symm)
  | nilf => exact one _ _ rfl rfl (.nilf _) (by simpa [cellsV] using hl.symm)
  | nili => exact one _ _ rfl rfl (.nili _) (by simpa [cellsV] using hl.symm)
  | fptr _ b off o cells cv hb ho hc h1 hv => exact one _ _ rfl rfl (.fptr _ b off o cells cv hb ho hc h1 hv) (by simpa [cellsV] using hl.symm)
  | func _ f cs l' hs hv => exact one _ _ rfl rfl (.func _ f cs l' hs hv) (by simpa [cellsV] using hl.symm)
  | agg _ cs l' hs h1 hv =>
    simp only [cellsV, Option.some.injEq] at hl
    subst hl
    exact ⟨hs, h1, hv⟩
  | tuple => simp [cellsV] at hl
  | when => simp [cellsV] at hl
  | row _ sz id ver off len hone h => exact have h1 : v.oneCell' = true := by { obtain ⟨_, _, rfl⟩ := hone; rfl }; one _ _ (cells_one h1) h1 (.row _ sz id ver off len hone h) (by simpa [cellsV] using hl.symm)
  | ptr _ id ver e o hone h => exact one _ _ (cells_one hone) hone (.ptr _ id ver e o hone h) (by simpa [cellsV] using hl.symm)

end
end Go.Proofs.Ytbpcjahjbkiofaa.AV

set_option linter.unusedVariables false
set_option linter.unusedSimpArgs false
namespace Go.Proofs.Ytbpcjahjbkiofaa.AV
open Go

section
variable {P : Program} {G : Ctx} {w : World} {ok : Nat → Prop} {mu : Nat → Option Nat} {T : Tab} {env : Env} {a : Act} {o : Oper} {nid : Nat}

theorem opd_rv (E : EnvOK w ok mu T env a.tmps) {x : Operand} {X : Opd} (h : opd x = some X) : RV w ok mu T false (a.eval x) (oval env X) := by
  cases x with
  | tmp n => simp only [opd, Option.some.injEq] at h; subst h; exact E n
  | const v => simp only [opd, Option.some.injEq] at h; subst h; exact ofV_rv _ _
  | global g => simp [opd] at h
  | func f => simp only [opd, Option.some.injEq] at h; subst h; exact .func _ _ _ _ rfl fun j hj => by simp at hj

/-- What an operation has done. -/
def DidT (P : Program) (o : Oper) (a : Act) (w : World) (ok : Nat → Prop) (mu : Nat → Option Nat) (T : Tab) (v : AV) (T' : Tab) : Prop :=
  ∃ nx x w' ok' mu', (execOp a.eval o).run P w = .ok nx w' ∧ (nx = .value x ∨ nx = .skip ∧ x = undef) ∧ Go.Proofs.Ytbpcjahjbkiofaa.AV.Next ok ok' mu mu' T T' w w' ∧ RV w' ok' mu' T' false x v
abbrev Did (P : Program) (o : Oper) (a : Act) (w : World) (ok : Nat → Prop) (mu : Nat → Option Nat) (T : Tab) (v : AV) (u : Option (Nat × Ob)) : Prop := DidT P o a w ok mu T v (tupd T u)

theorem Did.pure {x : Value} {v : AV} (I : Inv G ok mu T w) (h : (execOp a.eval o).run P w = .ok (.value x) w) (hv : RV w ok mu T false x v) : Did P o a w ok mu T v none :=
  ⟨_, x, w, ok, mu, h, .inl rfl, Next.same I rfl rfl rfl rfl, hv⟩

theorem did_mv (I : Inv G ok mu T w) (E : EnvOK w ok mu T env a.tmps) {x : Operand} {X : Opd} (hop : o.op = .move x ∨ o.op = .assign x) (hx : opd x = some X) {v u} (hv : opV (.mv X) env T nid = some (v, u)) :
    Did P o a w ok mu T v u := by
  simp only [opV, Option.some.injEq, Prod.mk.injEq] at hv
  obtain ⟨rfl, rfl⟩ := hv
  refine Did.pure (x := a.eval x) I ?_ (opd_rv E hx)
  rcases hop with h | h <;> simp [execOp, h]

theorem rv_tt {z : Bool} {v : Value} (h : RV w ok mu T z v .tt) : v = .bool true := by cases h; rfl
theorem rv_ff {z : Bool} {v : Value} (h : RV w ok mu T z v .ff) : v = .bool false := by cases h; rfl
theorem rv_bool {z : Bool} {v : Value} {b : Bool} (h : RV w ok mu T z v (.bool b)) : v = .bool b := by cases h; rfl
theorem rv_int {z : Bool} {v : Value} {k : IntKind} {n : Int} (h : RV w ok mu T z v (.int k n)) : v = .int k n := by cases h; rfl
theorem rv_str {z : Bool} {v : Value} {s : ByteArray} (h : RV w ok mu T z v (.str s)) : v = .string s := by cases h; rfl
theorem rv_ptr {v : Value} {id ver e o : Nat} (h : RV w ok mu T false v (.ptr id ver e o)) : PtrRef mu T id ver e o v := by cases h; assumption
theorem rv_row {v : Value} {sz id ver off len : Nat} (h : RV w ok mu T false v (.row sz id ver off len)) : RowRef w mu T sz id ver off len v := by cases h; assumption
theorem rv_rowV {v : Value} {sz id ver off len : Nat} (h : RV w ok mu T false v (.row sz id ver off len)) : ∃ A C, v = .slice A len C := by cases h; assumption
theorem rv_fptr {z : Bool} {v : Value} {cells : List AV} {o : Nat} (h : RV w ok mu T z v (.fptr cells o)) :
    ∃ (b off : Nat) (cv : Nat → Value), v = .pointer (some ⟨b, off + o, none⟩) ∧ ok b ∧ o ≤ cells.length ∧ (∀ j, j < cells.length → w.cell? ⟨b, off + j, none⟩ = some (cv j)) ∧
      (∀ j, j < cells.length → (cv j).oneCell' = true) ∧ ∀ j, j < cells.length → RV w ok mu T true (cv j) (lget cells j) := by
  cases h with
  | fptr _ b off _ _ cv hb ho hc h1 hv => exact ⟨b, off, cv, rfl, hb, ho, hc, h1, hv⟩
theorem rv_list {z : Bool} {v : Value} {sz n : Nat} {f : Nat → List AV} (h : RV w ok mu T z v (.list sz n f)) :
    ∃ (a : Option Addr) (cap : Nat) (cv : Nat → Nat → Value), v = .slice a n cap ∧ n ≤ cap ∧ cap ≤ maxLen ∧ 0 < sz ∧ (0 < n → ∃ b off, a = some ⟨b, off, none⟩ ∧ ok b ∧ ∀ i o, i < n → o < sz → w.cell? ⟨b, off + (i * sz + o), none⟩ = some (cv i o)) ∧
      (∀ i, i < n → (f i).length = sz) ∧ (∀ i o, i < n → o < sz → (cv i o).oneCell' = true) ∧ ∀ i o, i < n → o < sz → RV w ok mu T true (cv i o) (lget (f i) o) := by
  cases h with
  | list _ a cap sz n f cv hn hc hs ha hl h1 hv => exact ⟨a, cap, cv, rfl, hn, hc, hs, ha, hl, h1, hv⟩
theorem rv_zsl {z : Bool} {v : Value} (h : RV w ok mu T z v .zsl) : ∃ a, v = .slice a 0 0 := by cases h; exact ⟨_, rfl⟩
theorem rv_agg {z : Bool} {v : Value} {l : List AV} (h : RV w ok mu T z v (.agg l)) :
    ∃ cs, v = .agg cs ∧ cs.size = l.length ∧ (∀ j, j < l.length → (cs.getD j undef).oneCell' = true) ∧ ∀ j, j < l.length → RV w ok mu T z (cs.getD j undef) (lget l j) := by
  cases h with
  | agg _ cs l hs h1 hv => exact ⟨cs, rfl, hs, h1, hv⟩
theorem rv_tuple {z : Bool} {v : Value} {l : List AV} (h : RV w ok mu T z v (.tuple l)) :
    ∃ cs, v = .tuple cs ∧ cs.size = l.length ∧ ∀ j, j < l.length → RV w ok mu T z (cs.getD j undef) (lget l j) := by
  cases h with
  | tuple _ cs l hs hv => exact ⟨cs, rfl, hs, hv⟩
theorem rv_func {z : Bool} {v : Value} {f : FuncId} {l : List AV} (h : RV w ok mu T z v (.func f l)) :
    ∃ cs, v = .func (.func f) #[] cs ∧ cs.size = l.length ∧ ∀ j, j < l.length → RV w ok mu T z (cs.getD j undef) (lget l j) := by
  cases h with
  | func _ f cs l hs hv => exact ⟨cs, rfl, hs, hv⟩
theorem rv_boolOf {z : Bool} {v : Value} {x : AV} {b : Bool} (h : RV w ok mu T z v x) (hb : boolOf x = some b) : v = .bool b := by
  cases h <;> simp only [boolOf, Option.some.injEq, reduceCtorEq] at hb <;> (try subst hb) <;> rfl

theorem did_pick (I : Inv G ok mu T w) (E : EnvOK w ok mu T env a.tmps) {c x y : Operand} {C X Y : Opd} (hop : o.op = .pick c x y) (hc : opd c = some C) (hx : opd x = some X) (hy : opd y = some Y)
    {v u} (hv : opV (.pick C X Y) env T nid = some (v, u)) : Did P o a w ok mu T v u := by
  have rc := opd_rv E hc
  have rx := opd_rv E hx
  have ry := opd_rv E hy
  simp only [opV] at hv
  split at hv
  · rename_i hC
    simp only [Option.some.injEq, Prod.mk.injEq] at hv
    obtain ⟨rfl, rfl⟩ := hv
    rw [hC] at rc
    refine Did.pure (x := a.eval x) I ?_ rx
    simp [execOp, hop, rv_tt rc, asBool]
  · rename_i hC
    simp only [Option.some.injEq, Prod.mk.injEq] at hv
    obtain ⟨rfl, rfl⟩ := hv
    rw [hC] at rc
    refine Did.pure (x := a.eval y) I ?_ ry
    simp [execOp, hop, rv_ff rc, asBool]
  · rename_i b hC
    split at hv
    · rename_i p q hp hq
      simp only [Option.some.injEq, Prod.mk.injEq] at hv
      obtain ⟨rfl, rfl⟩ := hv
      rw [hC] at rc
      refine Did.pure (x := .bool (bif b then p else q)) I ?_ (.bool _ _)
      rw [show (execOp a.eval o) = (do pure (.value (if ← asBool (a.eval c) then a.eval x else a.eval y))) by simp [execOp, hop]]
      rw [rv_bool rc, rv_boolOf rx hp, rv_boolOf ry hq]
      cases b <;> simp [asBool]
    · cases hv
  · cases hv

theorem run_box (e : TypeId) (v : Value) : (Instr.box e v).run P w = .ok (.pointer (some ⟨w.heap.size, 0, none⟩)) (w.alloc (.cells v.cells e)) := by
  simp [Instr.box, newVar, newRow]

theorem fresh_len (T : Tab) : tget T T.length = .fresh := tget_ge T _ (Nat.le_refl _)

theorem ptr_new_box (T : Tab) (cells : List AV) (b : Nat) (mu : Nat → Option Nat) (id : Nat) (hm : mu id = some b) (hT : tget T id = .box cells) :
    RV w ok mu T false (.pointer (some ⟨b, 0, none⟩)) (.ptr id 0 0 0) := by
  refine .ptr _ _ _ _ _ rfl ⟨?_, fun cells' e => ⟨rfl, b, hm, rfl⟩, fun sz n cv f e => ?_⟩
  · rw [hT]; exact fun h => by cases h
  · rw [hT] at e; cases e

theorem did_newbox (hf : tget T nid = .fresh) (I : Inv G ok mu T w) {v : Value} {l : List AV} {e : TypeId} (h1 : v.cells.size = l.length) (h2 : ∀ j, j < l.length → (v.cells.getD j undef).oneCell' = true)
    (h3 : ∀ j, j < l.length → RV w ok mu T false (v.cells.getD j undef) (lget l j))
    (hrun : (execOp a.eval o).run P w = .ok (.value (.pointer (some ⟨w.heap.size, 0, none⟩))) (w.alloc (.cells v.cells e))) :
    Did P o a w ok mu T (.ptr nid 0 0 0) (some (nid, .box l)) := by
  refine ⟨_, _, _, ok, muSet mu nid (some w.heap.size), hrun, .inl rfl, ?_, ?_⟩
  · refine Next.alloc I hf v.cells e (.box l) trivial fun w' mu' T' ew em eT hrv hmu hheap => ?_
    exact ⟨w.heap.size, v.cells, e, hmu, hheap, h1, h2, fun j hj => hrv _ _ _ (h3 j hj)⟩
  · exact ptr_new_box _ l _ _ _ (muSet_same _ _ _) (tget_tset_same _ _ _)

theorem did_box (hf : tget T nid = .fresh) (I : Inv G ok mu T w) (E : EnvOK w ok mu T env a.tmps) {e : TypeId} {x : Operand} {X : Opd} (hop : o.op = .box e x) (hx : opd x = some X)
    {v u} (hv : opV (.box X) env T nid = some (v, u)) : Did P o a w ok mu T v u := by
  have rx := opd_rv E hx
  simp only [opV] at hv
  split at hv
  · rename_i l hl
    simp only [Option.some.injEq, Prod.mk.injEq] at hv
    obtain ⟨rfl, rfl⟩ := hv
    obtain ⟨h1, h2, h3⟩ := rx.cells hl
    exact did_newbox hf (e := e) I h1 h2 h3 (by simp [execOp, hop, run_box])
  · cases hv

theorem run_zeroValue {t : TypeId} {i : TypeInfo} {z : Value} (hi : P.info? t = some i) (hz : i.zero = some z) : (zeroValue t).run P w = .ok z w := by
  simp [zeroValue, typeInfo, hi, hz]

theorem run_alloc {t : TypeId} {i : TypeInfo} {z : Value} (hi : P.info? t = some i) (hz : i.zero = some z) :
    (Instr.alloc t true (.tuple #[])).run P w = .ok (.pointer (some ⟨w.heap.size, 0, none⟩)) (w.alloc (.cells z.cells t)) := by
  simp [Instr.alloc, run_zeroValue hi hz, newVar, newRow]

theorem all_get {l : List Value} {p : Value → Bool} (h : l.all p = true) (j : Nat) (hj : j < l.length) : p (l.getD j undef) = true := by
  rw [List.all_eq_true] at h
  have : l.getD j undef = l[j] := by simp [hj]
  rw [this]
  exact h _ (List.getElem_mem hj)

theorem getD_toList (c : Array Value) (j : Nat) : c.toList.getD j undef = c.getD j undef := by
  rcases Nat.lt_or_ge j c.size with h | h
  · simp [h]
  · simp [Nat.not_lt.2 h]

theorem did_alloc (hf : tget T nid = .fresh) (I : Inv G ok mu T w) {t : TypeId} {i : TypeInfo} {z : Value} (hop : o.op = .alloc t) (hi : P.info? t = some i) (hz : i.zero = some z) (hp : z.cells.toList.all plainV = true)
    {v u} (hv : opV (.alloc z.cells.toList) env T nid = some (v, u)) : Did P o a w ok mu T v u := by
  simp only [opV, Option.some.injEq, Prod.mk.injEq] at hv
  obtain ⟨rfl, rfl⟩ := hv
  refine did_newbox hf (v := z) (e := t) I (by simp) (fun j hj => ?_) (fun j hj => ?_) (by simp [execOp, hop, run_alloc hi hz])
  · have := all_get hp j (by simpa using hj)
    rw [getD_toList] at this
    exact plainV_oneCell this
  · rw [lget_map _ _ _ (by simpa using hj), getD_toList]
    exact ofV_rv _ _

theorem sameScalar_one {v c : Value} (h : sameScalar c v = true) : v.oneCell' = true ∧ ofV c = ofV v := by
  unfold sameScalar at h
  split at h
  · simp only [beq_iff_eq] at h; subst h; exact ⟨rfl, rfl⟩
  · simp only [Bool.and_eq_true, beq_iff_eq] at h; obtain ⟨rfl, rfl⟩ := h; exact ⟨rfl, rfl⟩
  · cases h

theorem did_allocA (hf : tget T nid = .fresh) (I : Inv G ok mu T w) {t : TypeId} {i : TypeInfo} {z c : Value} {r : List Value} {n : Nat} (hop : o.op = .alloc t) (hi : P.info? t = some i) (hz : i.zero = some z) (hn : 0 < n) (hl : r.length = n - 1) (hm : n ≤ maxLen)
    (hcells : z.cells.toList = c :: r) (hc : sameScalar c c = true) (hr : r.all (sameScalar c) = true)
    {v u} (hv : opV (.allocA n c) env T nid = some (v, u)) : Did P o a w ok mu T v u := by
  simp only [opV, Option.some.injEq, Prod.mk.injEq] at hv
  obtain ⟨rfl, rfl⟩ := hv
  have hsz : z.cells.size = n := by
    have := congrArg List.length hcells
    simp only [Array.length_toList, List.length_cons] at this
    omega
  have hget : ∀ j, j < n → sameScalar c (z.cells.getD j undef) = true := by
    intro j hj
    rw [← getD_toList, hcells]
    cases j with
    | zero => exact hc
    | succ j => exact all_get hr j (by omega)
  refine ⟨_, _, _, ok, muSet mu nid (some w.heap.size), by simp [execOp, hop, run_alloc hi hz]; exact ⟨rfl, rfl⟩, .inl rfl, ?_, ?_⟩
  · refine Next.alloc I hf z.cells t (.row 1 n 0 _) trivial fun w' mu' T' ew em eT hrv hmu hheap => ⟨by omega, fun _ _ => rfl, ?_⟩
    rw [hmu]
    refine ⟨z.cells, t, n, hheap, by omega, Nat.le_refl _, hm, fun i o hi' ho => ?_, fun i o hi' ho => ?_⟩
    · exact (sameScalar_one (hget _ (by omega))).1
    · obtain rfl : o = 0 := by omega
      show RV w' ok mu' T' true _ (ofV c)
      rw [(sameScalar_one (hget (i * 1 + 0) (by omega))).2]
      exact ofV_rv _ _
  · refine .ptr _ _ _ _ _ rfl ⟨?_, fun cells' e => ?_, fun sz n' cv f e => ?_⟩
    · show tget (tset T nid _) nid ≠ _
      rw [tget_tset_same]; exact fun h => by cases h
    · have e' : tget (tset T nid (.row 1 n 0 fun _ => [ofV c])) nid = .box cells' := e
      rw [tget_tset_same] at e'; cases e'
    · have e' : tget (tset T nid (.row 1 n 0 fun _ => [ofV c])) nid = .row sz n' cv f := e
      rw [tget_tset_same] at e'
      cases e'
      exact ⟨Nat.le_refl _, fun _ => ⟨hn, w.heap.size, muSet_same _ _ _, by simp⟩⟩

end
end Go.Proofs.Ytbpcjahjbkiofaa.AV

set_option linter.unusedVariables false
set_option linter.unusedSimpArgs false
namespace Go.Proofs.Ytbpcjahjbkiofaa.AV
open Go

section
variable {P : Program} {G : Ctx} {w : World} {ok : Nat → Prop} {mu : Nat → Option Nat} {T : Tab} {env : Env} {a : Act} {o : Oper} {nid : Nat}

theorem add_at (b k j : Nat) : (⟨b, k, none⟩ : Addr).add j = ⟨b, k + j, none⟩ := by unfold Addr.add; split <;> simp_all

theorem run_isAgg {t : TypeId} {d : TypeDesc} (h : P.underlying t = some d) : (isAgg t).run P w = .ok (isAggB d) w := by
  simp only [isAgg, Sem.run_bind, run_underlying h, Result.andThen_ok]
  cases d <;> rfl

theorem run_sizeOf {t : TypeId} {i : TypeInfo} (h : P.info? t = some i) : (sizeOf t).run P w = .ok i.size w := by
  simp [sizeOf, typeInfo, h]

theorem run_loadVar_agg {t : TypeId} {i : TypeInfo} {d : TypeDesc} (hi : P.info? t = some i) (hd : P.underlying t = some d) (ha : isAggB d = true) {b k : Nat} {f : Nat → Value}
    (hc : ∀ j, j < i.size → w.cell? ⟨b, k + j, none⟩ = some (f j)) : (loadVar t ⟨b, k, none⟩).run P w = .ok (.agg ((List.range i.size).map f).toArray) w := by
  have := run_loadCells (P := P) w ⟨b, k, none⟩ i.size f (fun j hj => by rw [add_at]; exact hc j hj)
  simp [loadVar, run_isAgg hd, ha, run_sizeOf hi, this]

theorem run_loadVar_one {t : TypeId} {d : TypeDesc} (hd : P.underlying t = some d) (ha : isAggB d = false) {b k : Nat} {v : Value}
    (hc : w.cell? ⟨b, k, none⟩ = some v) : (loadVar t ⟨b, k, none⟩).run P w = .ok v w := by
  simp [loadVar, run_isAgg hd, ha, hc]

theorem getD_range (f : Nat → Value) (n j : Nat) (h : j < n) : ((List.range n).map f).toArray.getD j undef = f j := by
  simp [h]

/-- Cells that are read: what a load gives. -/
theorem did_load_of (I : Inv G ok mu T w) {t : TypeId} {i : TypeInfo} {d : TypeDesc} {x : Operand} (hop : o.op = .load t x) (hi : P.info? t = some i) (hd : P.underlying t = some d)
    {b k : Nat} (hx : a.eval x = .pointer (some ⟨b, k, none⟩)) {cells : List AV} {q : Nat} {cv : Nat → Value}
    (hc : ∀ j, j < cells.length → q ≤ j → w.cell? ⟨b, k + (j - q), none⟩ = some (cv j)) (h1 : ∀ j, j < cells.length → (cv j).oneCell' = true) (hr : ∀ j, j < cells.length → RV w ok mu T false (cv j) (lget cells j))
    {v : AV} (hv : rdCells cells q i.size (isAggB d) = some v) : Did P o a w ok mu T v none := by
  unfold rdCells rdRow at hv
  cases ha : isAggB d with
  | true =>
    rw [ha] at hv
    simp only [cond_eq_ite, Nat.ble_eq] at hv
    split at hv
    · rename_i hle
      cases hv
      refine Did.pure (x := .agg ((List.range i.size).map fun j => cv (q + j)).toArray) I ?_ ?_
      · have := run_loadVar_agg (P := P) (w := w) hi hd ha (b := b) (k := k) (f := fun j => cv (q + j)) (fun j hj => by
          have := hc (q + j) (by omega) (by omega)
          rwa [show q + j - q = j by omega] at this)
        simp [execOp, hop, Instr.loadAt, Instr.sureAddr, hx, this]
      · refine .agg _ _ _ (by simp [lextr_length]) (fun j hj => ?_) fun j hj => ?_
        · rw [lextr_length] at hj
          rw [getD_range _ _ _ hj]
          exact h1 _ (by omega)
        · rw [lextr_length] at hj
          rw [getD_range _ _ _ hj, lget_lextr _ _ _ _ hj]
          exact hr _ (by omega)
    · cases hv
  | false =>
    rw [ha] at hv
    simp only [cond_eq_ite, Nat.blt_eq] at hv
    split at hv
    · rename_i hle
      cases hv
      have h0 := hc q hle (Nat.le_refl _)
      rw [Nat.sub_self, Nat.add_zero] at h0
      refine Did.pure (x := cv q) I ?_ (hr q hle)
      simp [execOp, hop, Instr.loadAt, Instr.sureAddr, hx, run_loadVar_one (P := P) hd ha h0]
    · cases hv

theorem cell_of_heap {b k : Nat} {c : Array Value} {e : TypeId} {fr : Nat × Nat} (h : w.heap[b]? = some (.cells c e fr)) (hk : k < c.size) : w.cell? ⟨b, k, none⟩ = some (c.getD k undef) := by
  simp [World.cell?, h, hk]

theorem did_ld (I : Inv G ok mu T w) (E : EnvOK w ok mu T env a.tmps) {t : TypeId} {i : TypeInfo} {d : TypeDesc} {x : Operand} {X : Opd} (hop : o.op = .load t x) (hi : P.info? t = some i) (hd : P.underlying t = some d) (hx : opd x = some X)
    {v u} (hv : opV (.ld i.size (isAggB d) X) env T nid = some (v, u)) : Did P o a w ok mu T v u := by
  have rx := opd_rv E hx
  simp only [opV] at hv
  split at hv
  · rename_i id ver e k hX
    rw [hX] at rx
    obtain ⟨h0, hbx, hrw⟩ := rv_ptr rx
    have hob := I.obs id
    split at hv
    · rename_i cells hT
      obtain ⟨rfl, b, hm, hval⟩ := hbx cells hT
      rw [hT] at hob
      obtain ⟨b', c, ty, g1, g2, g3, g4, g5⟩ := hob
      rw [hm] at g1
      cases g1
      split at hv
      · rename_i v' hrd
        cases hv
        exact did_load_of I hop hi hd hval (cv := fun j => c.getD j undef) (fun j hj hq => by rw [show k + (j - k) = j by omega]; exact cell_of_heap g2 (by omega)) g4 g5 hrd
      · cases hv
    · rename_i sz' n cv f hT
      cases hver' : Nat.beq ver cv with
      | false => rw [hver'] at hv; cases hv
      | true =>
      rw [hver', cond_true] at hv
      have hver : ver = cv := Nat.eq_of_beq_eq_true hver'
      obtain ⟨_, hr2⟩ := hrw sz' n cv f hT
      obtain ⟨hen, b, hm, hval⟩ := hr2 hver
      rw [hT] at hob
      obtain ⟨hsz, hlen, hob⟩ := hob
      rw [hm] at hob
      obtain ⟨c, ty, C, g2, g3, gn, gC, g4, g5⟩ := hob
      have hbound : ∀ j, j < sz' → e * sz' + j < c.size := fun j hj => by
        rw [g3]
        have h1 : e + 1 ≤ C := by omega
        have h2 := Nat.mul_le_mul_right sz' h1
        rw [Nat.add_mul, Nat.one_mul] at h2
        omega
      have hfl := hlen e hen
      split at hv
      · rename_i v' hrd
        cases hv
        rw [← hfl] at hrd
        exact did_load_of I hop hi hd hval (cells := f e) (q := k) (cv := fun j => c.getD (e * sz' + j) undef)
            (fun j hj hq => by rw [show e * sz' + k + (j - k) = e * sz' + j by omega]; exact cell_of_heap g2 (hbound j (by omega)))
            (fun j hj => g4 e j (by omega) (by omega)) (fun j hj => (g5 e j hen (by omega)).thaw) hrd
      · cases hv
    · cases hv
  · rename_i cells q hX
    rw [hX] at rx
    obtain ⟨b, off, cv, hval, hb, ho, hc, h1, hrv⟩ := rv_fptr rx
    split at hv
    · rename_i v' hrd
      cases hv
      exact did_load_of I hop hi hd hval (cv := cv) (fun j hj hq => by rw [show off + q + (j - q) = off + j by omega]; exact hc j hj) h1 (fun j hj => (hrv j hj).thaw) hrd
    · cases hv
  · cases hv

/-! ### Stores -/

theorem setRow_size (w : World) (b : Nat) (c : Array Value) : (w.setRow b c).heap.size = w.heap.size := by simp [World.setRow]
theorem setRow_ne (w : World) (b : Nat) (c : Array Value) (k : Nat) (h : k ≠ b) : (w.setRow b c).heap[k]? = w.heap[k]? := by
  simp only [World.setRow, Array.getElem?_modify]
  rw [if_neg (by omega)]
theorem setRow_at {b : Nat} {c c' : Array Value} {e : TypeId} {fr : Nat × Nat} (h : w.heap[b]? = some (.cells c e fr)) : (w.setRow b c').heap[b]? = some (.cells c' e fr) := by
  simp [World.setRow, Array.getElem?_modify, h]

/-- The row's cells behind a store of some of them. -/
def splice (c : Array Value) (k : Nat) (vs : List Value) : Array Value := (c.toList.take k ++ vs ++ c.toList.drop (k + vs.length)).toArray
theorem splice_size (c : Array Value) (k : Nat) (vs : List Value) (h : k + vs.length ≤ c.size) : (splice c k vs).size = c.size := by
  simp [splice]; omega
theorem splice_get (c : Array Value) (k : Nat) (vs : List Value) (h : k + vs.length ≤ c.size) (j : Nat) :
    (splice c k vs).getD j undef = if k ≤ j ∧ j < k + vs.length then vs.getD (j - k) undef else c.getD j undef := by
  rw [← getD_toList, splice]
  simp only [List.getD_eq_getElem?_getD]
  have hk : (c.toList.take k).length = k := by simp; omega
  by_cases h1 : j < k
  · rw [if_neg (by omega), List.append_assoc, List.getElem?_append_left (by omega), List.getElem?_take, if_pos h1]
    simp [Array.getD_eq_getD_getElem?]
  · by_cases h2 : j < k + vs.length
    · rw [if_pos ⟨by omega, h2⟩, List.append_assoc, List.getElem?_append_right (by omega), hk, List.getElem?_append_left (by omega)]
    · rw [if_neg (by omega), List.getElem?_append_right (by simp; omega)]
      simp only [List.length_append, hk, List.getElem?_drop]
      rw [show k + vs.length + (j - (k + vs.length)) = j by omega]
      simp [Array.getD_eq_getD_getElem?]

theorem run_storeVar {t : TypeId} {i : TypeInfo} (hi : P.info? t = some i) {b k : Nat} {c : Array Value} {e : TypeId} {v : Value} (hb : w.heap[b]? = some (.cells c e (0, 0))) (hsz : v.cells.size = i.size) (hk : k + i.size ≤ c.size)
    (h1 : ∀ j, j < v.cells.size → (v.cells.getD j undef).oneCell' = true) : (storeVar t ⟨b, k, none⟩ v).run P w = .ok () (w.setRow b (splice c k v.cells.toList)) := by
  have hst := run_storeCells_at P b k e v.cells.toList 0 c w hb (by simp; omega) (fun x hx => by
    obtain ⟨j, hj, rfl⟩ := List.getElem_of_mem hx
    have := h1 j (by simpa using hj)
    have h2 : j < v.cells.size := by simpa using hj
    simpa [h2] using this)
  simp only [Nat.add_zero] at hst
  simp [storeVar, run_sizeOf hi, hsz, hst, splice]

theorem did_st_of (I : Inv G ok mu T w) {t : TypeId} {i : TypeInfo} {x y : Operand} (hop : o.op = .store t x y) (hi : P.info? t = some i)
    {b k : Nat} (hx : a.eval x = .pointer (some ⟨b, k, none⟩)) {c : Array Value} {e : TypeId} (hb : w.heap[b]? = some (.cells c e (0, 0))) (hsz : (a.eval y).cells.size = i.size) (hk : k + i.size ≤ c.size)
    (h1 : ∀ j, j < (a.eval y).cells.size → ((a.eval y).cells.getD j undef).oneCell' = true) {id : Nat} {ob : Ob}
    (N : Go.Proofs.Ytbpcjahjbkiofaa.AV.Next ok ok mu mu T (tset T id ob) w (w.setRow b (splice c k (a.eval y).cells.toList))) : Did P o a w ok mu T .top (some (id, ob)) := by
  refine ⟨.skip, undef, _, ok, mu, ?_, .inr ⟨rfl, rfl⟩, N, .top _ _⟩
  simp [execOp, hop, Instr.storeAt, Instr.sureAddr, hx, run_storeVar (P := P) hi hb hsz hk h1]

theorem capOf_setRow {b : Nat} {c c' : Array Value} {e : TypeId} (h : w.heap[b]? = some (.cells c e (0, 0))) (hs : c'.size = c.size) : capOf (w.setRow b c') b = capOf w b := by
  simp [capOf, setRow_at h, h, hs]

theorem did_st (I : Inv G ok mu T w) (E : EnvOK w ok mu T env a.tmps) {t : TypeId} {i : TypeInfo} {x y : Operand} {X Y : Opd} (hop : o.op = .store t x y) (hi : P.info? t = some i) (hx : opd x = some X) (hy : opd y = some Y)
    {v u} (hv : opV (.st i.size X Y) env T nid = some (v, u)) : Did P o a w ok mu T v u := by
  have rx := opd_rv E hx
  have ry := opd_rv E hy
  simp only [opV] at hv
  split at hv
  · rename_i id ver e k hX
    rw [hX] at rx
    split at hv
    · rename_i l hl
      obtain ⟨c1, c2, c3⟩ := ry.cells hl
      obtain ⟨h0, hbx, hrw⟩ := rv_ptr rx
      have hob := I.obs id
      split at hv
      · rename_i cells hT
        simp only [cond_eq_ite, Bool.and_eq_true, Nat.beq_eq, Nat.ble_eq] at hv
        split at hv
        · rename_i hcond
          obtain ⟨hlsz, hle⟩ := hcond
          cases hv
          obtain ⟨rfl, b, hm, hval⟩ := hbx cells hT
          rw [hT] at hob
          obtain ⟨b', c, ty, g1, g2, g3, g4, g5⟩ := hob
          rw [hm] at g1
          cases g1
          have hvl : (a.eval y).cells.toList.length = l.length := by simpa using c1
          refine did_st_of I hop hi hval g2 (by omega) (by omega) (fun j hj => c2 j (by omega)) (Next.write I hm (by rw [hT]; trivial) _ trivial rfl rfl rfl (setRow_size _ _ _) (fun k hk => setRow_ne _ _ _ _ hk) (capOf_setRow g2 (splice_size _ _ _ (by omega))) (fun _ _ => ⟨cells, hT⟩) (fun _ _ _ _ e => by cases e) ?_)
          intro T' eT hrv
          refine ⟨b, _, ty, hm, setRow_at g2, by rw [splice_size _ _ _ (by omega), lsets_length]; exact g3, fun j hj => ?_, fun j hj => ?_⟩
          · rw [lsets_length] at hj
            rw [splice_get _ _ _ (by omega)]
            split
            · rw [getD_toList]; exact c2 _ (by omega)
            · exact g4 j hj
          · rw [lsets_length] at hj
            rw [splice_get _ _ _ (by omega), lget_lsets _ _ _ _ (by omega), hvl]
            split
            · rw [getD_toList]; exact hrv _ _ _ (c3 _ (by omega))
            · exact hrv _ _ _ (g5 j hj)
        · cases hv
      · rename_i sz' n cv f hT
        simp only [cond_eq_ite, Bool.and_eq_true, Nat.beq_eq, Nat.ble_eq] at hv
        split at hv
        · rename_i hcond
          obtain ⟨⟨⟨hver, hlsz⟩, hle⟩, hnr⟩ := hcond
          cases hv
          obtain ⟨_, hr2⟩ := hrw sz' n cv f hT
          obtain ⟨hen, b, hm, hval⟩ := hr2 hver
          rw [hT] at hob
          obtain ⟨hsz, hlen, hob⟩ := hob
          rw [hm] at hob
          obtain ⟨c, ty, C, g2, g3, gn, gC, g4, g5⟩ := hob
          have hbound : ∀ i j, i < n → j ≤ sz' → i * sz' + j ≤ c.size := fun i j hi hj => by
            rw [g3]
            have h1 : i + 1 ≤ C := by omega
            have h2 := Nat.mul_le_mul_right sz' h1
            rw [Nat.add_mul, Nat.one_mul] at h2
            omega
          have hvl : (a.eval y).cells.toList.length = l.length := by simpa using c1
          have hb0 := hbound e (k + l.length) hen (by omega)
          refine did_st_of I hop hi hval g2 (by omega) (by omega) (fun j hj => c2 j (by omega)) (Next.write I hm (by rw [hT]; trivial) _ trivial rfl rfl rfl (setRow_size _ _ _) (fun k hk => setRow_ne _ _ _ _ hk) (capOf_setRow g2 (splice_size _ _ _ (by omega)))
            (fun _ e => by cases e) (fun _ _ _ _ e => by cases e; exact ⟨n, cv, f, hT, Nat.le_refl _, Nat.le_refl _⟩) ?_)
          intro T' eT hrv
          refine ⟨hsz, fun i hi' => ?_, ?_⟩
          · simp only [cond_eq_ite]
            split
            · rw [lsets_length]; exact hlen i hi'
            · exact hlen i hi'
          rw [hm]
          have hin : ∀ i j, i < n → j < sz' → (e * sz' + k ≤ i * sz' + j ∧ i * sz' + j < e * sz' + k + l.length ↔ i = e ∧ k ≤ j ∧ j < k + l.length) := by
            intro i j hi' hj
            constructor
            · rintro ⟨q1, q2⟩
              have : i = e := by
                rcases Nat.lt_trichotomy i e with h | h | h
                · have h2 := Nat.mul_le_mul_right sz' (show i + 1 ≤ e by omega)
                  rw [Nat.add_mul, Nat.one_mul] at h2
                  omega
                · exact h
                · have h2 := Nat.mul_le_mul_right sz' (show e + 1 ≤ i by omega)
                  rw [Nat.add_mul, Nat.one_mul] at h2
                  omega
              subst this
              omega
            · rintro ⟨rfl, q1, q2⟩
              omega
          refine ⟨_, ty, C, setRow_at g2, by rw [splice_size _ _ _ (by omega)]; exact g3, gn, gC, fun i j hi' hj => ?_, fun i j hi' hj => ?_⟩
          · rw [splice_get _ _ _ (by omega), hvl]
            split
            · rw [getD_toList]; exact c2 _ (by omega)
            · exact g4 i j hi' hj
          · rw [splice_get _ _ _ (by omega), hvl]
            simp only [cond_eq_ite]
            by_cases hie : i = e
            · subst hie
              rw [if_pos rfl, lget_lsets _ _ _ _ (by rw [hlen i hi']; omega)]
              by_cases hjk : k ≤ j ∧ j < k + l.length
              · rw [if_pos ((hin i j hi' hj).2 ⟨rfl, hjk⟩), if_pos hjk, getD_toList, show i * sz' + j - (i * sz' + k) = j - k by omega]
                exact (hrv _ _ _ ((c3 _ (by omega)).freeze (noRefs_get _ _ hnr)))
              · rw [if_neg (fun h => hjk ((hin i j hi' hj).1 h).2), if_neg hjk]
                exact hrv _ _ _ (g5 i j hi' hj)
            · rw [if_neg (fun h => hie ((hin i j hi' hj).1 h).1), if_neg hie]
              exact hrv _ _ _ (g5 i j hi' hj)
        · cases hv
      · cases hv
    · cases hv
  · cases hv

end
end Go.Proofs.Ytbpcjahjbkiofaa.AV

set_option linter.unusedVariables false
set_option linter.unusedSimpArgs false
namespace Go.Proofs.Ytbpcjahjbkiofaa.AV
open Go

section
variable {P : Program} {G : Ctx} {w : World} {ok : Nat → Prop} {mu : Nat → Option Nat} {T : Tab} {env : Env} {a : Act} {o : Oper} {nid : Nat}

theorem live_ptr (I : Inv G ok mu T w) {v : Value} {id ver e k : Nat} (h : PtrRef mu T id ver e k v)
    (hl : (∃ cells, tget T id = .box cells) ∨ ∃ sz n f, tget T id = .row sz n ver f) : ∃ b q, v = .pointer (some ⟨b, q, none⟩) := by
  obtain ⟨h0, h1, h2⟩ := h
  rcases hl with ⟨cells, hT⟩ | ⟨sz, n, f, hT⟩
  · obtain ⟨_, b, _, e⟩ := h1 cells hT
    exact ⟨b, k, e⟩
  · obtain ⟨_, b, _, e⟩ := (h2 sz n ver f hT).2 rfl
    exact ⟨b, _, e⟩

theorem did_nilc (I : Inv G ok mu T w) (E : EnvOK w ok mu T env a.tmps) {x : Operand} {X : Opd} (hop : o.op = .nilCheck x) (hx : opd x = some X)
    {v u} (hv : opV (.nilc X) env T nid = some (v, u)) : Did P o a w ok mu T v u := by
  have rx := opd_rv E hx
  have key : ∀ v, (∃ b q, a.eval x = .pointer (some ⟨b, q, none⟩)) → RV w ok mu T false (a.eval x) v → Did P o a w ok mu T v none := by
    rintro v ⟨b, q, e⟩ hr
    refine Did.pure (x := a.eval x) I ?_ hr
    simp [execOp, hop, e]
  simp only [opV] at hv
  split at hv
  · rename_i id ver e k hX
    rw [hX] at rx
    split at hv
    · rename_i cells hT
      cases hv
      exact key _ (live_ptr I (rv_ptr rx) (.inl ⟨cells, hT⟩)) rx
    · rename_i sz n cv f hT
      cases hver' : Nat.beq ver cv with
      | false => rw [hver'] at hv; cases hv
      | true =>
      rw [hver', cond_true] at hv
      obtain rfl : ver = cv := Nat.eq_of_beq_eq_true hver'
      cases hv
      exact key _ (live_ptr I (rv_ptr rx) (.inr ⟨sz, n, f, hT⟩)) rx
    · cases hv
  · rename_i cells q hX
    rw [hX] at rx
    cases hv
    obtain ⟨b, off, cv, hval, _⟩ := rv_fptr rx
    exact key _ ⟨b, _, hval⟩ rx
  · cases hv

theorem did_not (I : Inv G ok mu T w) (E : EnvOK w ok mu T env a.tmps) {t : TypeId} {x : Operand} {X : Opd} (hop : o.op = .unOp .not t x) (hx : opd x = some X)
    {v u} (hv : opV (.not X) env T nid = some (v, u)) : Did P o a w ok mu T v u := by
  have rx := opd_rv E hx
  simp only [opV] at hv
  split at hv
  · rename_i hX
    cases hv
    rw [hX] at rx
    exact Did.pure (x := .bool false) I (by simp [execOp, hop, rv_tt rx, Op.unary]) (.ff _)
  · rename_i hX
    cases hv
    rw [hX] at rx
    exact Did.pure (x := .bool true) I (by simp [execOp, hop, rv_ff rx, Op.unary]) (.tt _)
  · rename_i b hX
    cases hv
    rw [hX] at rx
    exact Did.pure (x := .bool (!b)) I (by simp [execOp, hop, rv_bool rx, Op.unary]) (.bool _ _)
  · cases hv

theorem did_neg (I : Inv G ok mu T w) (E : EnvOK w ok mu T env a.tmps) {t : TypeId} {x : Operand} {X : Opd} (hop : o.op = .unOp .neg t x) (hx : opd x = some X)
    {v u} (hv : opV (.neg X) env T nid = some (v, u)) : Did P o a w ok mu T v u := by
  have rx := opd_rv E hx
  simp only [opV] at hv
  split at hv
  · rename_i k n hX
    cases hv
    rw [hX] at rx
    exact Did.pure (x := .int k (k.wrap (0 - n))) I (by simp [execOp, hop, rv_int rx, Op.unary, Op.intArith]) (.int _ _ _)
  · cases hv

theorem kindEq_eq {j k : IntKind} (h : kindEq j k = true) : j = k := by
  cases j <;> cases k <;> first | rfl | cases h

theorem eqGuard_int (op : BinOp) (t : TypeId) (x y : Operand) (k j : IntKind) (m n : Int) : (eqGuard op t x y (.int k m) (.int j n)).run P w = .ok () w := by
  unfold eqGuard
  cases op <;> simp
theorem eqGuard_str (op : BinOp) (t : TypeId) (x y : Operand) (m n : ByteArray) : (eqGuard op t x y (.string m) (.string n)).run P w = .ok () w := by
  unfold eqGuard
  cases op <;> simp
theorem eqGuard_bool (op : BinOp) (t : TypeId) (x y : Operand) (m n : Bool) : (eqGuard op t x y (.bool m) (.bool n)).run P w = .ok () w := by
  unfold eqGuard
  cases op <;> simp

theorem run_intBin {op : BinOp} {k : IntKind} {m n : Int} {t : TypeId} {v : AV} (h : intBin op k m n = some v) : ∃ x, (binOp op t (.int k m) (.int k n)).run P w = .ok x w ∧ ∀ mu T z, RV w ok mu T z x v := by
  unfold intBin at h
  split at h <;> first
    | (simp only [Option.some.injEq] at h; subst h; refine ⟨.int _ _, ?_, fun _ _ _ => .int _ _ _⟩; simp only [binOp, ne_eq, not_true_eq_false, if_false]; rfl)
    | (simp only [Option.some.injEq] at h; subst h; refine ⟨.bool _, ?_, fun _ _ _ => .bool _ _⟩; simp only [binOp, ne_eq, not_true_eq_false, if_false]; rfl)
    | cases h

theorem run_equalIn_bool {t : TypeId} (hd : P.underlying t = some .bool) (d : Nat) (p q : Bool) : (Op.equalIn (d + 1) t (.bool p) (.bool q)).run P w = .ok (p == q) w := by
  simp only [Op.equalIn, Sem.run_bind, run_underlying hd, Result.andThen_ok, Sem.run_pure]
theorem run_equalIn_int {t : TypeId} {k0 : IntKind} (hd : P.underlying t = some (.int k0)) (d : Nat) (k : IntKind) (p q : Int) : (Op.equalIn (d + 1) t (.int k p) (.int k q)).run P w = .ok (p == q) w := by
  simp only [Op.equalIn, Sem.run_bind, run_underlying hd, Result.andThen_ok, if_true, Sem.run_pure]
theorem run_equalIn_str {t : TypeId} (hd : P.underlying t = some .string) (d : Nat) (p q : ByteArray) : (Op.equalIn (d + 1) t (.string p) (.string q)).run P w = .ok (p == q) w := by
  simp only [Op.equalIn, Sem.run_bind, run_underlying hd, Result.andThen_ok, Sem.run_pure]

theorem run_exec_bin {op : BinOp} {t t' : TypeId} {x y : Operand} {r : Value} (hop : o.op = .binOp op t x y t') (h1 : (eqGuard op t x y (a.eval x) (a.eval y)).run P w = .ok () w)
    (h2 : (binOp op t (a.eval x) (a.eval y)).run P w = .ok r w) : (execOp a.eval o).run P w = .ok (.value r) w := by
  simp only [execOp, hop, Sem.run_bind, h1, Result.andThen_ok, h2, Sem.run_pure]

theorem isNegE_spec {op : BinOp} {n : Bool} (h : isNegE op = some n) : op = (if n then .neq else .eql) := by
  cases op <;> simp [isNegE] at h <;> subst h <;> rfl

theorem run_eqOp {op : BinOp} {n : Bool} {t : TypeId} {x y : Value} {b : Bool} (h : isNegE op = some n) (he : (Op.equal t x y).run P w = .ok b w) (hx : ∀ k m, x ≠ .int k m) (hf : ∀ k m, x ≠ .float k m) (hc : ∀ k m q, x ≠ .complex k m q) (hs : ∀ s, x ≠ .string s) :
    (binOp op t x y).run P w = .ok (.bool (negB n b)) w := by
  have := isNegE_spec h
  subst this
  cases n with
  | false =>
    cases x <;> first
      | exact absurd rfl (hx _ _)
      | exact absurd rfl (hf _ _)
      | exact absurd rfl (hc _ _ _)
      | exact absurd rfl (hs _)
      | (simp only [binOp, Bool.false_eq_true, if_false, Sem.run_bind, he, Result.andThen_ok, Sem.run_pure]; rfl)
  | true =>
    cases x <;> first
      | exact absurd rfl (hx _ _)
      | exact absurd rfl (hf _ _)
      | exact absurd rfl (hc _ _ _)
      | exact absurd rfl (hs _)
      | (simp only [binOp, if_true, Sem.run_bind, he, Result.andThen_ok, Sem.run_pure]; rfl)

theorem did_bin (I : Inv G ok mu T w) (E : EnvOK w ok mu T env a.tmps) {op : BinOp} {t t' : TypeId} {x y : Operand} {X Y : Opd} (hop : o.op = .binOp op t x y t') (hx : opd x = some X) (hy : opd y = some Y)
    {v u} (hv : opV (.bin op X Y) env T nid = some (v, u)) : Did P o a w ok mu T v u := by
  have rx := opd_rv E hx
  have ry := opd_rv E hy
  simp only [opV] at hv
  split at hv
  · rename_i k m j n hX hY
    rw [hX] at rx
    rw [hY] at ry
    cases hk : kindEq k j with
    | false => rw [hk] at hv; cases hv
    | true =>
    rw [hk, cond_true] at hv
    obtain rfl := kindEq_eq hk
    split at hv
    · rename_i v' hb
      cases hv
      obtain ⟨xv, h1, h2⟩ := run_intBin (P := P) (w := w) (ok := ok) (t := t) hb
      refine Did.pure (x := xv) I (run_exec_bin hop ?_ ?_) (h2 _ _ _)
      · rw [rv_int rx, rv_int ry]; exact eqGuard_int _ _ _ _ _ _ _ _
      · rw [rv_int rx, rv_int ry]; exact h1
    · cases hv
  · cases hv

theorem did_binB (I : Inv G ok mu T w) (E : EnvOK w ok mu T env a.tmps) {op : BinOp} {n : Bool} {t t' : TypeId} {x y : Operand} {X Y : Opd} (hop : o.op = .binOp op t x y t') (hn : isNegE op = some n) (hx : opd x = some X) (hy : opd y = some Y)
    (hd : P.underlying t = some .bool) {v u} (hv : opV (.binB n X Y) env T nid = some (v, u)) : Did P o a w ok mu T v u := by
  have rx := opd_rv E hx
  have ry := opd_rv E hy
  simp only [opV] at hv
  split at hv
  · rename_i p q hp hq
    cases hv
    have e1 := rv_boolOf rx hp
    have e2 := rv_boolOf ry hq
    refine Did.pure (x := .bool (negB n (p == q))) I (run_exec_bin hop (by rw [e1, e2]; exact eqGuard_bool _ _ _ _ _ _) ?_) (.bool _ _)
    rw [e1, e2]
    exact run_eqOp hn (run_equalIn_bool hd 9999 p q) (fun _ _ h => by cases h) (fun _ _ h => by cases h) (fun _ _ _ h => by cases h) (fun _ h => by cases h)
  · cases hv

theorem did_binS (I : Inv G ok mu T w) (E : EnvOK w ok mu T env a.tmps) {op : BinOp} {n : Bool} {t t' : TypeId} {x y : Operand} {X Y : Opd} (hop : o.op = .binOp op t x y t') (hn : isNegE op = some n) (hx : opd x = some X) (hy : opd y = some Y)
    {v u} (hv : opV (.binS n X Y) env T nid = some (v, u)) : Did P o a w ok mu T v u := by
  have rx := opd_rv E hx
  have ry := opd_rv E hy
  simp only [opV] at hv
  split at hv
  · rename_i p q hX hY
    rw [hX] at rx
    rw [hY] at ry
    cases hv
    have e1 := rv_str rx
    have e2 := rv_str ry
    refine Did.pure (x := .bool (negB n (p.toList == q.toList))) I (run_exec_bin hop (by rw [e1, e2]; exact eqGuard_str _ _ _ _ _ _) ?_) (.bool _ _)
    rw [e1, e2, isNegE_spec hn]
    cases n <;> rfl
  · cases hv

theorem did_eqNilP (I : Inv G ok mu T w) (E : EnvOK w ok mu T env a.tmps) {op : BinOp} {n : Bool} {t t' e0 : TypeId} {x y : Operand} {X : Opd} (hop : o.op = .binOp op t x y t') (hn : isNegE op = some n) (hx : opd x = some X) (hy : a.eval y = .pointer none)
    (hd : P.underlying t = some (.pointer e0)) {v u} (hv : opV (.eqNilP n X) env T nid = some (v, u)) : Did P o a w ok mu T v u := by
  have rx := opd_rv E hx
  have run : ∀ A, a.eval x = .pointer A → (execOp a.eval o).run P w = .ok (.value (.bool (negB n A.isNone))) w := fun A hA => by
    refine run_exec_bin hop ?_ ?_
    · rw [hA, hy]; unfold eqGuard; cases op <;> simp
    · rw [hA, hy]
      refine run_eqOp hn ?_ (fun _ _ h => by cases h) (fun _ _ h => by cases h) (fun _ _ _ h => by cases h) (fun _ h => by cases h)
      have : ∀ d, (Op.equalIn (d + 1) t (.pointer A) (.pointer none)).run P w = .ok A.isNone w := fun d => by
        cases A <;> simp only [Op.equalIn, Sem.run_bind, run_underlying hd, Result.andThen_ok, Sem.run_pure] <;> rfl
      exact this 9999
  have some_ : ∀ b q, a.eval x = .pointer (some ⟨b, q, none⟩) → Did P o a w ok mu T (tf n) none := fun b q h => by
    have h1 := run _ h
    cases n with
    | true => exact Did.pure I h1 (.tt _)
    | false => exact Did.pure I h1 (.ff _)
  simp only [opV] at hv
  split at hv
  · rename_i id ver e k hX
    rw [hX] at rx
    split at hv
    · rename_i cells hT
      cases hv
      obtain ⟨b, q, h⟩ := live_ptr I (rv_ptr rx) (.inl ⟨cells, hT⟩)
      exact some_ b q h
    · rename_i sz n' cv f hT
      cases hver' : Nat.beq ver cv with
      | false => rw [hver'] at hv; cases hv
      | true =>
      rw [hver', cond_true] at hv
      obtain rfl : ver = cv := Nat.eq_of_beq_eq_true hver'
      cases hv
      obtain ⟨b, q, h⟩ := live_ptr I (rv_ptr rx) (.inr ⟨sz, n', f, hT⟩)
      exact some_ b q h
    · cases hv
  · rename_i cells q hX
    rw [hX] at rx
    cases hv
    obtain ⟨b, off, cv, hval, _⟩ := rv_fptr rx
    exact some_ b _ hval
  · rename_i hX
    rw [hX] at rx
    cases hv
    have hval : a.eval x = .pointer none := by generalize a.eval x = q at rx; cases rx; rfl
    have h1 := run _ hval
    cases n with
    | true => exact Did.pure I h1 (.ff _)
    | false => exact Did.pure I h1 (.tt _)
  · cases hv

theorem run_fieldPlace {f : Field} {i : TypeInfo} (hi : P.info? f.type = some i) (h0 : i.size ≠ 0) (b q : Nat) : (fieldPlace ⟨b, q, none⟩ f).run P w = .ok ⟨b, q + f.offset, none⟩ w := by
  simp [fieldPlace, run_sizeOf hi, h0, add_at]

theorem did_fa (I : Inv G ok mu T w) (E : EnvOK w ok mu T env a.tmps) {t : TypeId} {j : Nat} {fs : Array Field} {f : Field} {i : TypeInfo} {x : Operand} {X : Opd} (hop : o.op = .fieldAddr t x j) (hd : P.underlying t = some (.struct fs))
    (hf : fs[j]? = some f) (hi : P.info? f.type = some i) (h0 : i.size ≠ 0) (hx : opd x = some X)
    {v u} (hv : opV (.fa f.offset X) env T nid = some (v, u)) : Did P o a w ok mu T v u := by
  have rx := opd_rv E hx
  have run : ∀ b q, a.eval x = .pointer (some ⟨b, q, none⟩) → (execOp a.eval o).run P w = .ok (.value (.pointer (some ⟨b, q + f.offset, none⟩))) w := fun b q e => by
    simp [execOp, hop, Instr.fieldAt, run_underlying hd, hf, Instr.sureAddr, e, run_fieldPlace hi h0]
  simp only [opV] at hv
  split at hv
  · rename_i id ver e k hX
    rw [hX] at rx
    have hp := rv_ptr rx
    split at hv
    · rename_i cells hT
      cases hv
      obtain ⟨h1, h2, h3⟩ := hp
      obtain ⟨he, b, hm, hval⟩ := h2 cells hT
      refine Did.pure (x := .pointer (some ⟨b, k + f.offset, none⟩)) I (run b k hval) (.ptr _ _ _ _ _ rfl ⟨h1, fun c' _ => ⟨he, b, hm, rfl⟩, fun sz n cv f' e' => ?_⟩)
      rw [hT] at e'; cases e'
    · rename_i sz n cv f' hT
      cases hver' : Nat.beq ver cv with
      | false => rw [hver'] at hv; cases hv
      | true =>
      rw [hver', cond_true] at hv
      obtain rfl : ver = cv := Nat.eq_of_beq_eq_true hver'
      cases hv
      obtain ⟨h1, h2, h3⟩ := hp
      obtain ⟨he, b, hm, hval⟩ := (h3 sz n ver f' hT).2 rfl
      refine Did.pure (x := .pointer (some ⟨b, e * sz + k + f.offset, none⟩)) I (run b _ hval) (.ptr _ _ _ _ _ rfl ⟨h1, fun c' e' => ?_, fun sz' n' cv' f'' e' => ?_⟩)
      · rw [hT] at e'; cases e'
      · rw [hT] at e'; cases e'
        exact ⟨Nat.le_refl _, fun _ => ⟨he, b, hm, by rw [Nat.add_assoc]⟩⟩
    · cases hv
  · rename_i cells q hX
    rw [hX] at rx
    cases hle : Nat.ble (q + f.offset) cells.length with
    | false => rw [hle] at hv; cases hv
    | true =>
    rw [hle, cond_true] at hv
    cases hv
    obtain ⟨b, off, cv, hval, hb, ho, hc, h1, hrv⟩ := rv_fptr rx
    refine Did.pure (x := .pointer (some ⟨b, off + (q + f.offset), none⟩)) I (by rw [run b _ hval, Nat.add_assoc]) (.fptr _ b off _ cells cv hb (by rw [Nat.ble_eq] at hle; exact hle) hc h1 hrv)
  · cases hv

theorem did_ext (I : Inv G ok mu T w) (E : EnvOK w ok mu T env a.tmps) {n : Nat} {x : Operand} {X : Opd} (hop : o.op = .extract x n) (hx : opd x = some X)
    {v u} (hv : opV (.ext n X) env T nid = some (v, u)) : Did P o a w ok mu T v u := by
  have rx := opd_rv E hx
  simp only [opV] at hv
  split at hv
  · rename_i l hX
    rw [hX] at rx
    obtain ⟨cs, hval, hs, hr⟩ := rv_tuple rx
    cases hlt : Nat.blt n l.length with
    | false => rw [hlt] at hv; cases hv
    | true =>
    rw [hlt, cond_true] at hv
    rw [Nat.blt_eq] at hlt
    cases hv
    refine Did.pure (x := cs.getD n undef) I ?_ (hr n hlt)
    have : n < cs.size := by omega
    simp [execOp, hop, hval, Instr.extract, this]
  · cases hv

theorem did_cvI (I : Inv G ok mu T w) (E : EnvOK w ok mu T env a.tmps) {s d : TypeId} {k : IntKind} {j : IntKind} {x : Operand} {X : Opd} (hop : o.op = .convert s d x) (hs : P.underlying s = some (.int j)) (hd : P.underlying d = some (.int k)) (hx : opd x = some X)
    {v u} (hv : opV (.cvI k X) env T nid = some (v, u)) : Did P o a w ok mu T v u := by
  have rx := opd_rv E hx
  simp only [opV] at hv
  split at hv
  · rename_i j' n hX
    rw [hX] at rx
    cases hv
    exact Did.pure (x := .int k (k.wrap n)) I (by simp [execOp, hop, rv_int rx, convert, run_underlying hs, run_underlying hd, Conv.intToInt]) (.int _ _ _)
  · cases hv

theorem opds_get {l : List Operand} {L : List Opd} (h : opds l = some L) : L.length = l.length ∧ ∀ j, j < l.length → opd (l.getD j (.const undef)) = some (L.getD j (.c undef)) := by
  induction l generalizing L with
  | nil => simp only [opds, Option.some.injEq] at h; subst h; exact ⟨rfl, fun j hj => by simp at hj⟩
  | cons x r ih =>
    simp only [opds] at h
    split at h
    · rename_i p q hp hq
      cases h
      obtain ⟨h1, h2⟩ := ih hq
      refine ⟨by simp [h1], fun j hj => ?_⟩
      cases j with
      | zero => exact hp
      | succ j => exact h2 j (by simpa using hj)
    · cases h

theorem vals_length : ∀ (l : List Opd), (vals env l).length = l.length
  | [] => rfl
  | x :: r => by show (vals env r).length + 1 = _; rw [vals_length r]; rfl
theorem lget_vals : ∀ (l : List Opd) (j : Nat), j < l.length → lget (vals env l) j = oval env (l.getD j (.c undef))
  | [], _, h => by simp at h
  | x :: r, 0, _ => rfl
  | x :: r, j + 1, h => lget_vals r j (by simpa using h)

/-- Arguments. -/
theorem args_rv (E : EnvOK w ok mu T env a.tmps) {l : Array Operand} {L : List Opd} (h : opds l.toList = some L) :
    (l.map a.eval).size = (vals env L).length ∧ ∀ j, j < (vals env L).length → RV w ok mu T false ((l.map a.eval).getD j undef) (lget (vals env L) j) := by
  obtain ⟨h1, h2⟩ := opds_get h
  rw [vals_length]
  refine ⟨by simp [h1], fun j hj => ?_⟩
  rw [lget_vals _ _ hj]
  have hj' : j < l.size := by rw [h1] at hj; simpa using hj
  have h3 := h2 j (by simpa using hj')
  have := opd_rv E h3
  simpa [hj'] using this

theorem did_fn (I : Inv G ok mu T w) (E : EnvOK w ok mu T env a.tmps) {f : FuncId} {first cap : Array Operand} {L : List Opd} (hop : o.op = .makeFunc (.func f) first cap) (hf : first.toList = []) (hc : opds cap.toList = some L)
    {v u} (hv : opV (.fn f L) env T nid = some (v, u)) : Did P o a w ok mu T v u := by
  simp only [opV, Option.some.injEq, Prod.mk.injEq] at hv
  obtain ⟨rfl, rfl⟩ := hv
  obtain ⟨h1, h2⟩ := args_rv E hc
  obtain rfl : first = #[] := by simpa using hf
  exact Did.pure (x := .func (.func f) #[] (cap.map a.eval)) I (by simp [execOp, hop, Instr.makeFunc]) (.func _ _ _ _ h1 h2)

theorem row_val {v : Value} {sz id ver off len : Nat} (h : RowRef w mu T sz id ver off len v) {sz' n cv : Nat} {f : Nat → List AV} (hT : tget T id = .row sz' n cv f) (hver : Nat.beq ver cv = true) : ∃ A C, v = .slice A len C := by
  obtain ⟨_, _, h1⟩ := h
  obtain ⟨_, _, hs⟩ := (h1 sz' n cv f hT).2 (Nat.eq_of_beq_eq_true hver)
  unfold SliceAt at hs
  split at hs
  · obtain ⟨cap, e, _⟩ := hs
    exact ⟨_, _, e⟩
  · obtain ⟨_, rfl, A, e⟩ := hs
    exact ⟨_, _, e⟩

theorem did_len (I : Inv G ok mu T w) (E : EnvOK w ok mu T env a.tmps) {x : Operand} {X : Opd} {t e : TypeId} {c : Call} (hop : o.op = .call c) (hb : c.callee = .builtin .len) (ha : c.args.toList = [x]) (ht : c.argTypes.toList = [t])
    (hd : P.underlying t = some (.slice e)) (hx : opd x = some X)
    {v u} (hv : opV (.len X) env T nid = some (v, u)) : Did P o a w ok mu T v u := by
  have rx := opd_rv E hx
  have ea : c.args = #[x] := by rw [← ha]
  have et : c.argTypes = #[t] := by rw [← ht]
  have run1 : ∀ A n C, a.eval x = .slice A n C → (execOp a.eval o).run P w = .ok (.value (.int .i64 n)) w := fun A n C hv => by
    simp [execOp, hop, resolve, hb, ea, et, invoke, builtin, Builtin.len_, run_underlying hd, hv, goInt]
  simp only [opV] at hv
  split at hv
  · rename_i sz n f hX
    cases hv
    rw [hX] at rx
    obtain ⟨A, C, cv, hval, _⟩ := rv_list rx
    exact Did.pure I (run1 _ _ _ hval) (.int _ _ _)
  · rename_i hX
    cases hv
    rw [hX] at rx
    obtain ⟨A, hval⟩ := rv_zsl rx
    exact Did.pure I (run1 _ _ _ hval) (.int _ _ _)
  · rename_i sz id ver off len hX
    cases hv
    rw [hX] at rx
    obtain ⟨A, C, hval⟩ := rv_rowV rx
    exact Did.pure I (run1 _ _ _ hval) (.int _ _ _)
  · cases hv

theorem did_lenS (I : Inv G ok mu T w) (E : EnvOK w ok mu T env a.tmps) {x : Operand} {X : Opd} {t : TypeId} {c : Call} (hop : o.op = .call c) (hb : c.callee = .builtin .len) (ha : c.args.toList = [x]) (ht : c.argTypes.toList = [t])
    (hd : P.underlying t = some .string) (hx : opd x = some X)
    {v u} (hv : opV (.lenS X) env T nid = some (v, u)) : Did P o a w ok mu T v u := by
  have rx := opd_rv E hx
  have ea : c.args = #[x] := by rw [← ha]
  have et : c.argTypes = #[t] := by rw [← ht]
  simp only [opV] at hv
  split at hv
  · rename_i s hX
    cases hv
    rw [hX] at rx
    exact Did.pure (x := .int .i64 s.size) I (by simp [execOp, hop, resolve, hb, ea, et, invoke, builtin, Builtin.len_, run_underlying hd, rv_str rx, goInt]) (.int _ _ _)
  · cases hv

theorem did_mnmx (I : Inv G ok mu T w) (E : EnvOK w ok mu T env a.tmps) {mx : Bool} {c : Call} {X Y : Opd} (hop : o.op = .call c) (hb : c.callee = .builtin (if mx then .max else .min)) (ha : opds c.args.toList = some [X, Y])
    {v u} (hv : opV (.mnmx mx X Y) env T nid = some (v, u)) : Did P o a w ok mu T v u := by
  obtain ⟨h1, h2⟩ := args_rv E ha
  have r0 := h2 0 (by simp [vals])
  have r1 := h2 1 (by simp [vals])
  simp only [vals, List.length_cons, List.length_nil] at h1
  simp only [opV] at hv
  split at hv
  · rename_i k m j n hX hY
    have q0 : RV w ok mu T false ((c.args.map a.eval).getD 0 undef) (oval env X) := r0
    have q1 : RV w ok mu T false ((c.args.map a.eval).getD 1 undef) (oval env Y) := r1
    rw [hX] at q0
    rw [hY] at q1
    have e0 := rv_int q0
    have e1 := rv_int q1
    cases hv
    have ea : c.args.map a.eval = #[.int k m, .int j n] := by
      apply Array.ext
      · simpa using h1
      · intro i hi hi'
        have hi2 : i < 2 := by simpa using hi'
        have : i = 0 ∨ i = 1 := by omega
        rcases this with rfl | rfl
        · have : (c.args.map a.eval).getD 0 undef = (c.args.map a.eval)[0] := by simp only [Array.getD, hi, dite_true]; rfl
          rw [← this, e0]; rfl
        · have : (c.args.map a.eval).getD 1 undef = (c.args.map a.eval)[1] := by simp only [Array.getD, hi, dite_true]; rfl
          rw [← this, e1]; rfl
    cases mx with
    | true =>
      refine Did.pure (x := .int k (if n > m then n else m)) I ?_ (.int _ _ _)
      simp [execOp, hop, resolve, hb, invoke, builtin, Builtin.max_, Builtin.max2, ea]
    | false =>
      refine Did.pure (x := .int k (if n < m then n else m)) I ?_ (.int _ _ _)
      simp [execOp, hop, resolve, hb, invoke, builtin, Builtin.min_, Builtin.min2, ea]
  · cases hv

end
end Go.Proofs.Ytbpcjahjbkiofaa.AV

set_option linter.unusedVariables false
set_option linter.unusedSimpArgs false
namespace Go.Proofs.Ytbpcjahjbkiofaa.AV
open Go

section
variable {P : Program} {G : Ctx} {w : World} {ok : Nat → Prop} {mu : Nat → Option Nat} {T : Tab} {env : Env} {a : Act} {o : Oper} {nid : Nat}

theorem did_fld (I : Inv G ok mu T w) (E : EnvOK w ok mu T env a.tmps) {t : TypeId} {j : Nat} {fs : Array Field} {f : Field} {i : TypeInfo} {d : TypeDesc} {x : Operand} {X : Opd} (hop : o.op = .field t x j) (hd : P.underlying t = some (.struct fs))
    (hf : fs[j]? = some f) (hi : P.info? f.type = some i) (hdf : P.underlying f.type = some d) (hx : opd x = some X)
    {v u} (hv : opV (.fld f.offset i.size (isAggB d) X) env T nid = some (v, u)) : Did P o a w ok mu T v u := by
  have rx := opd_rv E hx
  simp only [opV] at hv
  split at hv
  · rename_i l hX
    rw [hX] at rx
    obtain ⟨cs, hval, hs, h1, hr⟩ := rv_agg rx
    have run : ∀ xv, (part f.type cs f.offset).run P w = .ok xv w → (execOp a.eval o).run P w = .ok (.value xv) w := fun xv h => by
      simp [execOp, hop, Instr.field, run_underlying hd, hf, hval, asAgg, h]
    split at hv
    · rename_i v' hrd
      cases hv
      unfold rdCells rdRow at hrd
      cases ha : isAggB d with
      | true =>
        rw [ha] at hrd
        simp only [cond_eq_ite, Nat.ble_eq] at hrd
        split at hrd
        · rename_i hle
          cases hrd
          refine Did.pure (x := .agg (cs.extract f.offset (f.offset + i.size))) I (run _ (by simp [part, run_isAgg hdf, ha, run_sizeOf hi])) (.agg _ _ _ (by simp [lextr_length]; omega) (fun q hq => ?_) fun q hq => ?_)
          · rw [lextr_length] at hq
            have : (cs.extract f.offset (f.offset + i.size)).getD q undef = cs.getD (f.offset + q) undef := by
              have e1 : q < f.offset + i.size - f.offset := by omega
              have e2 : f.offset + q < cs.size := by omega
              simp [Array.getD_eq_getD_getElem?, Array.getElem?_extract, e1, e2, show min (f.offset + i.size) cs.size - f.offset = i.size by omega, hq]
            rw [this]
            exact h1 _ (by omega)
          · rw [lextr_length] at hq
            have : (cs.extract f.offset (f.offset + i.size)).getD q undef = cs.getD (f.offset + q) undef := by
              have e1 : q < f.offset + i.size - f.offset := by omega
              have e2 : f.offset + q < cs.size := by omega
              simp [Array.getD_eq_getD_getElem?, Array.getElem?_extract, e1, e2, show min (f.offset + i.size) cs.size - f.offset = i.size by omega, hq]
            rw [this, lget_lextr _ _ _ _ hq]
            exact hr _ (by omega)
        · cases hrd
      | false =>
        rw [ha] at hrd
        simp only [cond_eq_ite, Nat.blt_eq] at hrd
        split at hrd
        · rename_i hlt
          cases hrd
          have hlt' : f.offset < cs.size := by omega
          refine Did.pure (x := cs.getD f.offset undef) I (run _ ?_) (hr _ hlt)
          simp [part, run_isAgg hdf, ha, hlt']
        · cases hrd
    · cases hv
  · cases hv

/-! ### Struct and array literals -/

/-- One part laid into the cells. -/
theorem fold_part (off : Nat) : ∀ (vs : List Value) (cs : Array Value) (j0 : Nat), off + j0 + vs.length ≤ cs.size →
    ((vs.zipIdx j0).foldl (fun cs x => cs.setIfInBounds (off + x.2) x.1) cs).size = cs.size ∧
    ∀ j, ((vs.zipIdx j0).foldl (fun cs x => cs.setIfInBounds (off + x.2) x.1) cs).getD j undef = if off + j0 ≤ j ∧ j < off + j0 + vs.length then vs.getD (j - (off + j0)) undef else cs.getD j undef
  | [], cs, j0, _ => ⟨rfl, fun j => by rw [if_neg (by simp only [List.length_nil]; omega)]; rfl⟩
  | v :: r, cs, j0, h => by
    simp only [List.length_cons] at h
    obtain ⟨h1, h2⟩ := fold_part off r (cs.setIfInBounds (off + j0) v) (j0 + 1) (by simp; omega)
    simp only [List.zipIdx_cons, List.foldl_cons]
    refine ⟨by rw [h1]; simp, fun j => ?_⟩
    rw [h2 j]
    simp only [List.length_cons]
    by_cases e : j = off + j0
    · subst e
      rw [if_neg (by omega), if_pos (by omega), Nat.sub_self]
      have : off + j0 < cs.size := by omega
      simp [this]
    · by_cases e2 : off + (j0 + 1) ≤ j ∧ j < off + (j0 + 1) + r.length
      · rw [if_pos e2, if_pos (by omega), show j - (off + j0) = (j - (off + (j0 + 1))) + 1 by omega]
        rfl
      · rw [if_neg e2, if_neg (by omega)]
        rw [Array.getD_eq_getD_getElem?, Array.getElem?_setIfInBounds, if_neg (by omega), ← Array.getD_eq_getD_getElem?]

def CellsOK (w : World) (ok : Nat → Prop) (mu : Nat → Option Nat) (T : Tab) (cs : Array Value) (l : List AV) : Prop :=
  cs.size = l.length ∧ (∀ j, j < l.length → (cs.getD j undef).oneCell' = true) ∧ ∀ j, j < l.length → RV w ok mu T false (cs.getD j undef) (lget l j)

theorem CellsOK.part {cs : Array Value} {l : List AV} (h : CellsOK w ok mu T cs l) {v : Value} {k : List AV} {off : Nat} (hk : v.cells.size = k.length ∧ (∀ j, j < k.length → (v.cells.getD j undef).oneCell' = true) ∧ ∀ j, j < k.length → RV w ok mu T false (v.cells.getD j undef) (lget k j))
    (hle : off + k.length ≤ l.length) : CellsOK w ok mu T (v.cells.zipIdx.foldl (fun cs x => cs.setIfInBounds (off + x.2) x.1) cs) (lsets l off k) := by
  obtain ⟨h1, h2, h3⟩ := h
  obtain ⟨k1, k2, k3⟩ := hk
  have e : v.cells.zipIdx.foldl (fun cs x => cs.setIfInBounds (off + x.2) x.1) cs = (v.cells.toList.zipIdx 0).foldl (fun cs x => cs.setIfInBounds (off + x.2) x.1) cs := by
    rw [← Array.foldl_toList]
    simp
  have hl : v.cells.toList.length = k.length := by simpa using k1
  obtain ⟨f1, f2⟩ := fold_part off v.cells.toList cs 0 (by omega)
  rw [e]
  refine ⟨by rw [f1, lsets_length]; exact h1, fun j hj => ?_, fun j hj => ?_⟩
  · rw [lsets_length] at hj
    rw [f2 j]
    split
    · rw [getD_toList]; exact k2 _ (by omega)
    · exact h2 j hj
  · rw [lsets_length] at hj
    rw [f2 j, lget_lsets _ _ _ _ hle, Nat.add_zero, hl]
    split
    · rw [getD_toList]; exact k3 _ (by omega)
    · exact h3 j hj

/-- The parts of a literal, by places. -/
inductive Parts (place : Nat → Option (Nat × Nat)) : List (Nat × Operand) → List (Nat × Nat × Opd) → Prop
  | nil : Parts place [] []
  | cons {i off sz : Nat} {x : Operand} {X : Opd} {r : List (Nat × Operand)} {L : List (Nat × Nat × Opd)} (h1 : place i = some (off, sz)) (h2 : opd x = some X) (h3 : Parts place r L) : Parts place ((i, x) :: r) ((off, sz, X) :: L)

theorem fill_ok (E : EnvOK w ok mu T env a.tmps) {place : Nat → Option (Nat × Nat)} : ∀ {ps : List (Nat × Operand)} {L : List (Nat × Nat × Opd)} (cs : Array Value) (l l' : List AV), Parts place ps L → CellsOK w ok mu T cs l → bldV env l L = some l' →
    ∃ cs', Instr.fill place cs (ps.map fun p => (p.1, a.eval p.2)) = some cs' ∧ CellsOK w ok mu T cs' l' := by
  intro ps L cs l l' hp
  induction hp generalizing cs l with
  | nil => intro h hb; simp only [bldV, Option.some.injEq] at hb; subst hb; exact ⟨cs, rfl, h⟩
  | @cons i off sz x X r L h1 h2 h3 ih =>
    intro h hb
    simp only [bldV] at hb
    split at hb
    · rename_i k hk
      cases hc : Nat.beq k.length sz && Nat.ble (off + sz) l.length with
      | false => rw [hc] at hb; cases hb
      | true =>
      rw [hc, cond_true] at hb
      simp only [Bool.and_eq_true, Nat.beq_eq, Nat.ble_eq] at hc
      obtain ⟨rfl, hle⟩ := hc
      have rx := (opd_rv E h2).cells hk
      have hpart := h.part (off := off) rx hle
      obtain ⟨cs', e1, e2⟩ := ih _ _ hpart hb
      refine ⟨cs', ?_, e2⟩
      simp only [List.map_cons, Instr.fill, h1]
      rw [if_neg]
      · exact e1
      · obtain ⟨q1, _⟩ := rx
        obtain ⟨q2, _⟩ := h
        simp only [q1, q2, ne_eq, not_true_eq_false, Bool.false_or, decide_false, decide_eq_true_eq, Bool.or_eq_true, false_or, Nat.not_lt]
        omega
    · cases hb

theorem zero_ok (z : Value) (hz : z.cells.toList.all plainV = true) : CellsOK w ok mu T z.cells (z.cells.toList.map ofV) := by
  refine ⟨by simp, fun j hj => ?_, fun j hj => ?_⟩
  · have := all_get hz j (by simpa using hj)
    rw [getD_toList] at this
    exact plainV_oneCell this
  · rw [lget_map _ _ _ (by simpa using hj), getD_toList]
    exact ofV_rv _ _

theorem did_bld (I : Inv G ok mu T w) (E : EnvOK w ok mu T env a.tmps) {t : TypeId} {z : Value} {ps : Array (Nat × Operand)} {L : List (Nat × Nat × Opd)} {place : Nat → Option (Nat × Nat)} (hop : o.op = .build t ps)
    (hz : z.cells.toList.all plainV = true) (hp : Parts place ps.toList L)
    (hrun : ∀ cs', Instr.fill place z.cells (ps.toList.map fun p => (p.1, a.eval p.2)) = some cs' → (Instr.build t (ps.map fun (i, x) => (i, a.eval x))).run P w = .ok (.agg cs') w)
    {v u} (hv : opV (.bld z.cells.toList L) env T nid = some (v, u)) : Did P o a w ok mu T v u := by
  simp only [opV] at hv
  split at hv
  · rename_i l' hl'
    cases hv
    obtain ⟨cs', e1, e2, e3, e4⟩ := fill_ok E z.cells _ _ hp (zero_ok z hz) hl'
    refine Did.pure (x := .agg cs') I ?_ (.agg _ _ _ e2 e3 e4)
    have := hrun cs' e1
    simp [execOp, hop, this]
  · cases hv

theorem partsOf_spec {fs : Array Field} {sizes : Array (Nat × Nat)} (hs : sizes.size = fs.size) (hs2 : ∀ (i : Nat) (f : Field), fs[i]? = some f → ∀ ti, P.info? f.type = some ti → sizes[i]? = some (f.offset, ti.size)) :
    ∀ {ps : List (Nat × Operand)} {L : List (Nat × Nat × Opd)}, partsOf P fs ps = some L → Parts (sizes[·]?) ps L
  | [], L, h => by simp only [partsOf, Option.some.injEq] at h; subst h; exact .nil
  | (i, x) :: r, L, h => by
    simp only [partsOf] at h
    split at h
    · rename_i f X b hf hX hb
      split at h
      · rename_i ti hti
        cases h
        exact .cons (hs2 i f hf ti hti) hX (partsOf_spec hs hs2 hb)
      · cases h
    · cases h

theorem partsOfA_spec {sz : Nat} : ∀ {ps : List (Nat × Operand)} {L : List (Nat × Nat × Opd)}, partsOfA sz ps = some L → Parts (fun i => some (i * sz, sz)) ps L
  | [], L, h => by simp only [partsOfA, Option.some.injEq] at h; subst h; exact .nil
  | (i, x) :: r, L, h => by
    simp only [partsOfA] at h
    split at h
    · rename_i X b hX hb
      cases h
      exact .cons rfl hX (partsOfA_spec hb)
    · cases h

theorem run_mapM {α β : Type} (g : α → Sem β) (h : α → β) : ∀ (l : List α), (∀ x ∈ l, (g x).run P w = .ok (h x) w) → (l.mapM g).run P w = .ok (l.map h) w
  | [], _ => by simp
  | x :: r, hl => by
    have h1 := hl x (by simp)
    have h2 := run_mapM g h r fun y hy => hl y (by simp [hy])
    simp [List.mapM_cons, h1, h2]

def placeOf (P : Program) (f : Field) : Nat × Nat := (f.offset, ((P.info? f.type).map (·.size)).getD 0)

theorem run_build_struct {t : TypeId} {fs : Array Field} {ti : TypeInfo} {z : Value} {parts : Array (Nat × Value)} {cs' : Array Value} (hd : P.underlying t = some (.struct fs)) (hi : P.info? t = some ti) (hz : ti.zero = some z)
    (hall : fs.toList.all (fun f => (P.info? f.type).isSome) = true) (hf : Instr.fill ((fs.map (placeOf P))[·]?) z.cells parts.toList = some cs') : (Instr.build t parts).run P w = .ok (.agg cs') w := by
  have hm := run_mapM (P := P) (w := w) (fun f : Field => (do pure (f.offset, ← sizeOf f.type) : Sem (Nat × Nat))) (placeOf P) fs.toList (fun f hf => by
    have := (List.all_eq_true.1 hall) f hf
    obtain ⟨i, hi⟩ := Option.isSome_iff_exists.1 this
    simp [run_sizeOf hi, placeOf, hi])
  have hm2 : (fs.mapM (fun f : Field => (do pure (f.offset, ← sizeOf f.type) : Sem (Nat × Nat)))).run P w = .ok (fs.map (placeOf P)) w := by
    rw [Array.mapM_eq_mapM_toList, Sem.run_map, hm]
    simp only [Result.andThen_ok]
    congr 1
    apply Array.ext'
    simp
  simp only [Instr.build, Sem.run_bind, run_zeroValue hi hz, run_underlying hd, Result.andThen_ok, hm2, hf, Sem.run_pure]

theorem did_bldS (I : Inv G ok mu T w) (E : EnvOK w ok mu T env a.tmps) {t : TypeId} {ti : TypeInfo} {z : Value} {ps : Array (Nat × Operand)} {L : List (Nat × Nat × Opd)} {fs : Array Field} (hop : o.op = .build t ps)
    (hd : P.underlying t = some (.struct fs)) (hi : P.info? t = some ti) (hz : ti.zero = some z) (hp : partsOf P fs ps.toList = some L) (hzp : z.cells.toList.all plainV = true) (hall : fs.toList.all (fun f => (P.info? f.type).isSome) = true)
    {v u} (hv : opV (.bld z.cells.toList L) env T nid = some (v, u)) : Did P o a w ok mu T v u := by
  refine did_bld I E hop hzp (partsOf_spec (sizes := fs.map (placeOf P)) (by simp) (fun i f hf ti hti => by simp [hf, placeOf, hti]) hp) (fun cs' hf => ?_) hv
  exact run_build_struct hd hi hz hall (by simpa using hf)

theorem did_bldA (I : Inv G ok mu T w) (E : EnvOK w ok mu T env a.tmps) {t e : TypeId} {n : Nat} {ti te : TypeInfo} {z : Value} {ps : Array (Nat × Operand)} {L : List (Nat × Nat × Opd)} (hop : o.op = .build t ps)
    (hd : P.underlying t = some (.array n e)) (hi : P.info? t = some ti) (hz : ti.zero = some z) (hte : P.info? e = some te) (hp : partsOfA te.size ps.toList = some L) (hzp : z.cells.toList.all plainV = true)
    {v u} (hv : opV (.bld z.cells.toList L) env T nid = some (v, u)) : Did P o a w ok mu T v u := by
  refine did_bld I E hop hzp (partsOfA_spec hp) (fun cs' hf => ?_) hv
  simp only [Instr.build, Sem.run_bind, run_zeroValue hi hz, run_underlying hd, Result.andThen_ok, run_sizeOf hte, Array.toList_map]
  rw [hf]
  rfl

/-! ### Slice literals -/

theorem nthL_spec : ∀ (L : List Opd) (ls : List (List AV)) (sz : Nat), partsV env sz L = some ls →
    ls.length = L.length ∧ ∀ i, i < L.length → cellsV (oval env (L.getD i (.c undef))) = some (nthL ls i) ∧ (nthL ls i).length = sz ∧ noRefs (nthL ls i) = true
  | [], ls, sz, h => by simp only [partsV, Option.some.injEq] at h; subst h; exact ⟨rfl, fun i hi => by simp at hi⟩
  | x :: r, ls, sz, h => by
    simp only [partsV] at h
    split at h
    · rename_i l b hl hb
      cases hc : Nat.beq l.length sz && noRefs l with
      | false => rw [hc] at h; cases h
      | true =>
      rw [hc, cond_true] at h
      cases h
      simp only [Bool.and_eq_true, Nat.beq_eq] at hc
      obtain ⟨h1, h2⟩ := nthL_spec r b sz hb
      refine ⟨by simp [h1], fun i hi => ?_⟩
      cases i with
      | zero => exact ⟨hl, hc.1, hc.2⟩
      | succ i => exact h2 i (by simpa using hi)
    · cases h

/-- The rows of a slice literal, as far as they are laid. -/
theorem fill_rows {sz : Nat} (hsz : 0 < sz) (vs : Nat → Value) (m : Nat) (hvs : ∀ i, i < m → (vs i).cells.size = sz) : ∀ (k i0 : Nat) (cs : Array Value), i0 + k = m → cs.size = m * sz →
    ∃ cs', Instr.fill (fun i => some (i * sz, sz)) cs ((List.range k).map fun i => (i0 + i, vs (i0 + i))) = some cs' ∧ cs'.size = m * sz ∧
      ∀ i j, i < m → j < sz → cs'.getD (i * sz + j) undef = if i0 ≤ i then (vs i).cells.getD j undef else cs.getD (i * sz + j) undef
  | 0, i0, cs, h1, h2 => ⟨cs, rfl, h2, fun i j hi hj => by rw [if_neg (by omega)]⟩
  | k + 1, i0, cs, h1, h2 => by
    have hi0 : i0 < m := by omega
    have hc0 := hvs i0 hi0
    have hb : i0 * sz + sz ≤ m * sz := by
      have := Nat.mul_le_mul_right sz (show i0 + 1 ≤ m by omega)
      rwa [Nat.add_mul, Nat.one_mul] at this
    have e : (vs i0).cells.zipIdx.foldl (fun cs x => cs.setIfInBounds (i0 * sz + x.2) x.1) cs = ((vs i0).cells.toList.zipIdx 0).foldl (fun cs x => cs.setIfInBounds (i0 * sz + x.2) x.1) cs := by
      rw [← Array.foldl_toList]
      simp
    have hlen : (vs i0).cells.toList.length = sz := by simpa using hc0
    obtain ⟨f1, f2⟩ := fold_part (i0 * sz) (vs i0).cells.toList cs 0 (by omega)
    obtain ⟨cs', g1, g2, g3⟩ := fill_rows hsz vs m hvs k (i0 + 1) ((vs i0).cells.zipIdx.foldl (fun cs x => cs.setIfInBounds (i0 * sz + x.2) x.1) cs) (by omega) (by rw [e, f1]; exact h2)
    refine ⟨cs', ?_, g2, fun i j hi hj => ?_⟩
    · rw [List.range_succ_eq_map, List.map_cons, List.map_map]
      simp only [Instr.fill, Nat.add_zero]
      rw [if_neg]
      · rw [← g1]
        congr 2
        funext i
        simp [Nat.add_assoc, Nat.add_comm 1 i]
      · simp only [hc0, h2, ne_eq, not_true_eq_false, decide_false, Bool.false_or, Bool.or_eq_true, decide_eq_true_eq, false_or, Nat.not_lt]
        omega
    · rw [g3 i j hi hj]
      by_cases hle : i0 + 1 ≤ i
      · rw [if_pos hle, if_pos (by omega)]
      · rw [if_neg hle, e, f2, Nat.add_zero, hlen]
        by_cases hii : i = i0
        · subst hii
          rw [if_pos (by omega), if_pos (Nat.le_refl _), getD_toList, show i * sz + j - i * sz = j by omega]
        · rw [if_neg, if_neg (by omega)]
          rintro ⟨q1, q2⟩
          have := Nat.mul_le_mul_right sz (show i + 1 ≤ i0 by omega)
          rw [Nat.add_mul, Nat.one_mul] at this
          omega

theorem inOrder_spec : ∀ (ps : List (Nat × Operand)) (k : Nat), inOrder k ps = true → ∀ i, i < ps.length → (ps.getD i (0, .const undef)).1 = k + i
  | [], _, _, i, hi => by simp at hi
  | (q, x) :: r, k, h, i, hi => by
    simp only [inOrder, Bool.and_eq_true, Nat.beq_eq] at h
    cases i with
    | zero => exact h.1
    | succ i =>
      have := inOrder_spec r (k + 1) h.2 i (by simpa using hi)
      show (r.getD i (0, .const undef)).1 = _
      omega

theorem bsl_core (I : Inv G ok mu T w) (E : EnvOK w ok mu T env a.tmps) {t e : TypeId} {len : Nat} {ti : TypeInfo} {z : Value} {ps : Array (Nat × Operand)} {L : List Opd} (hop : o.op = .buildSlice t len ps)
    (hd : P.underlying t = some (.slice e)) (hi : P.info? e = some ti) (hz : ti.zero = some z) (hp : opds (ps.toList.map (·.2)) = some L) (hs : 0 < ti.size) (hzs : z.cells.size = ti.size) (hl : L.length = len) (ho : inOrder 0 ps.toList = true) (hb : len * ti.size < 1000)
    {ls : List (List AV)} (hls : partsV env ti.size L = some ls) : ∃ cs', (execOp a.eval o).run P w = .ok (.value (.slice (some ⟨w.heap.size, 0, none⟩) len len)) (w.alloc (.cells cs' e)) ∧ cs'.size = len * ti.size ∧ (∀ i, i < len → (nthL ls i).length = ti.size) ∧
      (∀ i j, i < len → j < ti.size → (cs'.getD (i * ti.size + j) undef).oneCell' = true) ∧ ∀ i j, i < len → j < ti.size → RV w ok mu T true (cs'.getD (i * ti.size + j) undef) (lget (nthL ls i) j) := by
  · obtain ⟨n1, n2⟩ := nthL_spec L ls _ hls
    obtain ⟨o1, o2⟩ := opds_get hp
    have hpl : ps.toList.length = len := by simpa [hl] using o1.symm
    -- the values of the parts
    let vs : Nat → Value := fun i => a.eval (ps.toList.getD i (0, .const undef)).2
    have hvs : ∀ i, i < len → (vs i).cells.size = ti.size ∧ (∀ j, j < ti.size → ((vs i).cells.getD j undef).oneCell' = true) ∧ ∀ j, j < ti.size → RV w ok mu T true ((vs i).cells.getD j undef) (lget (nthL ls i) j) := by
      intro i hi'
      have h3 := o2 i (by simpa using (by omega : i < ps.toList.length))
      obtain ⟨c1, c2, c3⟩ := n2 i (by omega)
      have rx := opd_rv E h3
      have hvi : vs i = a.eval ((ps.toList.map (·.2)).getD i (.const undef)) := by
        show a.eval _ = _
        congr 1
        have : i < ps.toList.length := by omega
        simp only [List.getD_eq_getElem?_getD, List.getElem?_map, List.getElem?_eq_getElem this, Option.getD_some, Option.map_some]
      obtain ⟨q1, q2, q3⟩ := rx.cells c1
      rw [hvi]
      exact ⟨by omega, fun j hj => q2 j (by omega), fun j hj => (q3 j (by omega)).freeze (noRefs_get _ _ c3)⟩
    have hmap : ps.toList.map (fun p => (p.1, a.eval p.2)) = (List.range len).map fun i => (0 + i, vs (0 + i)) := by
      apply List.ext_getElem
      · simp; simpa using hpl
      · intro i h1 h2
        have hi' : i < ps.toList.length := by simpa using h1
        have := inOrder_spec _ _ ho i hi'
        have hg : ps.toList.getD i (0, .const undef) = ps.toList[i] := by simp [List.getD_eq_getElem?_getD, List.getElem?_eq_getElem hi']
        simp only [List.getElem_map, List.getElem_range, Nat.zero_add]
        rw [hg] at this
        ext1
        · dsimp only; omega
        · dsimp only; show _ = a.eval _; rw [hg]
    obtain ⟨cs', g1, g2, g3⟩ := fill_rows hs vs len (fun i hi' => (hvs i hi').1) len 0 ((Array.range (len * ti.size)).map fun x => (if len * ti.size = 0 then #[] else z.cells)[x % (if len * ti.size = 0 then #[] else z.cells).size]!) (by omega) (by simp)
    have hrun : (execOp a.eval o).run P w = .ok (.value (.slice (some ⟨w.heap.size, 0, none⟩) len len)) (w.alloc (.cells cs' e)) := by
      have hlt : ¬ (len * ti.size > 2 ^ 24) := by omega
      have hf : Instr.fill (fun i => some (i * ti.size, ti.size)) ((Array.range (len * ti.size)).map fun x => (if len * ti.size = 0 then #[] else z.cells)[x % (if len * ti.size = 0 then #[] else z.cells).size]!) (ps.map fun (i, x) => (i, a.eval x)).toList = some cs' := by
        rw [← g1, ← hmap]
        simp
      by_cases h0 : len * ti.size = 0
      · simp only [h0, if_true] at hf
        simp [execOp, hop, Instr.buildSlice, run_underlying hd, run_sizeOf hi, hlt, h0, newRow] at hf ⊢
        rw [hf]
        simp
      · simp only [h0, if_false] at hf
        simp only [execOp, hop, Instr.buildSlice, Sem.run_bind, run_underlying hd, run_sizeOf hi, Result.andThen_ok, hlt, h0, if_false, run_zeroValue hi hz, Sem.run_pure, hf, newRow, run_newObj]
        rfl
    exact ⟨cs', hrun, g2, fun i hi' => (n2 i (by omega)).2.1, fun i j hi' hj => by rw [g3 i j (by omega) hj, if_pos (Nat.zero_le _)]; exact (hvs i (by omega)).2.1 j hj, fun i j hi' hj => by rw [g3 i j (by omega) hj, if_pos (Nat.zero_le _)]; exact (hvs i (by omega)).2.2 j hj⟩

theorem did_bsl (hf : tget T nid = .fresh) (I : Inv G ok mu T w) (E : EnvOK w ok mu T env a.tmps) {t e : TypeId} {len : Nat} {ti : TypeInfo} {z : Value} {ps : Array (Nat × Operand)} {L : List Opd} (hop : o.op = .buildSlice t len ps)
    (hd : P.underlying t = some (.slice e)) (hi : P.info? e = some ti) (hz : ti.zero = some z) (hp : opds (ps.toList.map (·.2)) = some L) (hs : 0 < ti.size) (hzs : z.cells.size = ti.size) (hl : L.length = len) (ho : inOrder 0 ps.toList = true) (hb : len * ti.size < 1000)
    {v u} (hv : opV (.bsl ti.size L) env T nid = some (v, u)) : Did P o a w ok mu T v u := by
  simp only [opV] at hv
  split at hv
  · rename_i ls hls
    cases hv
    obtain ⟨cs', hrun, g2, n2, g3, g4⟩ := bsl_core I E hop hd hi hz hp hs hzs hl ho hb hls
    refine ⟨_, _, _, ok, muSet mu nid (some w.heap.size), hrun, .inl rfl, ?_, ?_⟩
    · refine Next.alloc I hf cs' e (.row ti.size L.length 0 _) trivial fun w' mu' T' ew em eT hrv hmu hheap => ⟨hs, fun i hi' => n2 i (by omega), ?_⟩
      rw [hmu]
      refine ⟨cs', e, len, hheap, g2, by omega, ?_, fun i j hi' hj => ?_, fun i j hi' hj => ?_⟩
      · have := Nat.le_mul_of_pos_right len hs
        unfold maxLen
        omega
      · exact g3 i j hi' hj
      · exact hrv _ _ _ (g4 i j (by omega) hj)
    · refine .row _ _ _ _ _ _ ⟨_, _, by rw [hl]⟩ ⟨?_, fun cells e' => ?_, fun sz' n' cv f e' => ?_⟩
      · show tget (tset T nid _) nid ≠ _
        rw [tget_tset_same]; exact fun h => by cases h
      · have e2 : tget (tset T nid (.row ti.size L.length 0 (nthL ls))) nid = .box cells := e'
        rw [tget_tset_same] at e2; cases e2
      · have e2 : tget (tset T nid (.row ti.size L.length 0 (nthL ls))) nid = .row sz' n' cv f := e'
        rw [tget_tset_same] at e2
        cases e2
        refine ⟨Nat.le_refl _, fun _ => ⟨rfl, by omega, ?_⟩⟩
        unfold SliceAt
        rw [muSet_same]
        refine ⟨len, by rw [hl]; simp, ?_, by omega⟩
        unfold capOf
        rw [heap_alloc_new w]
        simp [g2]
  · cases hv


theorem did_bslF (I : Inv G ok mu T w) (E : EnvOK w ok mu T env a.tmps) {t e : TypeId} {len : Nat} {ti : TypeInfo} {z : Value} {ps : Array (Nat × Operand)} {L : List Opd} (hop : o.op = .buildSlice t len ps)
    (hd : P.underlying t = some (.slice e)) (hi : P.info? e = some ti) (hz : ti.zero = some z) (hp : opds (ps.toList.map (·.2)) = some L) (hs : 0 < ti.size) (hzs : z.cells.size = ti.size) (hl : L.length = len) (ho : inOrder 0 ps.toList = true) (hb : len * ti.size < 1000)
    {v u} (hv : opV (.bslF ti.size L) env T nid = some (v, u)) : Did P o a w ok mu T v u := by
  simp only [opV] at hv
  split at hv
  · rename_i ls hls
    cases hv
    obtain ⟨cs', hrun, g2, n2, g3, g4⟩ := bsl_core I E hop hd hi hz hp hs hzs hl ho hb hls
    have N := Next.allocF I cs' e
    refine ⟨_, _, _, _, mu, hrun, .inl rfl, N, ?_⟩
    subst hl
    refine .list _ _ _ _ _ _ (fun i j => cs'.getD (i * ti.size + j) undef) (Nat.le_refl _) ?_ hs (fun _ => ⟨w.heap.size, 0, rfl, .inr rfl, fun i j hi' hj => ?_⟩) n2 g3 fun i j hi' hj => N.rv I (g4 i j hi' hj)
    · have := Nat.le_mul_of_pos_right L.length hs
      unfold maxLen
      omega
    · rw [Nat.zero_add]
      refine cell_of_heap (heap_alloc_new w _) ?_
      rw [g2]
      have := Nat.mul_le_mul_right ti.size (show i + 1 ≤ L.length by omega)
      rw [Nat.add_mul, Nat.one_mul] at this
      omega
  · cases hv


end
end Go.Proofs.Ytbpcjahjbkiofaa.AV

set_option linter.unusedVariables false
set_option linter.unusedSimpArgs false
namespace Go.Proofs.Ytbpcjahjbkiofaa.AV
open Go

section
variable {P : Program} {G : Ctx} {w : World} {ok : Nat → Prop} {mu : Nat → Option Nat} {T : Tab} {env : Env} {a : Act} {o : Oper} {nid : Nat}

/-- What stands in the cells xs from 'off' on, as a value of type t. -/
def viewAt (d : TypeDesc) (size : Nat) (xs : Array Value) (off : Nat) : Value := match isAggB d with
  | true => .agg (xs.extract off (off + size))
  | false => xs.getD off undef

theorem eqCells_append (l m : List AV) : ∀ (p q : List (Nat × Nat)) (b : Bool), eqCells l m (p ++ q) = some b → ∃ b1 b2, eqCells l m p = some b1 ∧ eqCells l m q = some b2 ∧ b = (b1 && b2)
  | [], q, b, h => ⟨true, b, rfl, h, by simp⟩
  | (o, k) :: r, q, b, h => by
    simp only [List.cons_append, eqCells] at h
    split at h
    · rename_i b1 b2 h1 h2
      cases h
      obtain ⟨c1, c2, e1, e2, rfl⟩ := eqCells_append l m r q b2 h2
      exact ⟨b1 && c1, c2, by simp only [eqCells, h1, e1], e2, by rw [Bool.and_assoc]⟩
    · cases h

theorem extract_getD (xs : Array Value) (i j k : Nat) (h : i + k < j) (hj : j ≤ xs.size) : (xs.extract i j).getD k undef = xs.getD (i + k) undef := by
  have e2 : i + k < xs.size := by omega
  simp [Array.getD_eq_getD_getElem?, Array.getElem?_extract, e2, show k < min j xs.size - i by omega]

theorem extract_extract (xs : Array Value) (i j k n : Nat) (h : k + n ≤ j - i) (hj : j ≤ xs.size) : (xs.extract i j).extract k (k + n) = xs.extract (i + k) (i + k + n) := by
  apply Array.ext_getElem?
  intro q
  simp only [Array.getElem?_extract, Array.size_extract]
  by_cases hq : q < n
  · rw [if_pos (by omega), if_pos (by omega), if_pos (by omega), Nat.add_assoc]
  · rw [if_neg (by omega), if_neg (by omega)]

/-- A part of a value that stands in cells: what stands in these cells. -/
theorem run_part_view {t : TypeId} {ti : TypeInfo} {d : TypeDesc} (hi : P.info? t = some ti) (hd : P.underlying t = some d) (xs : Array Value) (off S k : Nat) (hS : off + S ≤ xs.size) (hk : k + ti.size ≤ S) (h0 : isAggB d = false → 0 < ti.size) :
    (part t (xs.extract off (off + S)) k).run P w = .ok (viewAt d ti.size xs (off + k)) w := by
  unfold viewAt
  cases ha : isAggB d with
  | true =>
    simp only [part, Sem.run_bind, run_isAgg hd, ha, Result.andThen_ok, if_true, run_sizeOf hi, Sem.run_pure]
    rw [extract_extract _ _ _ _ _ (by omega) hS]
  | false =>
    have h1 := h0 ha
    have : off + k < xs.size := by omega
    have e : (xs.extract off (off + S))[k]? = some (xs.getD (off + k) undef) := by
      simp [Array.getElem?_extract, show k < min (off + S) xs.size - off by omega, this]
    simp [part, run_isAgg hd, ha, e]

theorem eqCell_run {x y : Value} {p q : AV} {b : Bool} {k : Nat} (hx : RV w ok mu T false x p) (hy : RV w ok mu T false y q) (h : eqCell k p q = some b) {t : TypeId}
    (hd : k = 0 ∧ P.underlying t = some .bool ∨ k = 1 ∧ (∃ j, P.underlying t = some (.int j)) ∨ k = 2 ∧ P.underlying t = some .string) (n : Nat) : (Op.equalIn (n + 1) t x y).run P w = .ok b w := by
  rcases hd with ⟨rfl, hd⟩ | ⟨rfl, j, hd⟩ | ⟨rfl, hd⟩
  · simp only [eqCell] at h
    split at h
    · rename_i b1 b2 h1 h2
      cases h
      obtain rfl := rv_boolOf hx h1
      obtain rfl := rv_boolOf hy h2
      exact run_equalIn_bool hd n _ _
    · cases h
  · simp only [eqCell] at h
    split at h
    · rename_i k1 m k2 r
      obtain rfl := rv_int hx
      obtain rfl := rv_int hy
      cases hk : kindEq k1 k2 with
      | false => rw [hk] at h; cases h
      | true =>
      rw [hk, cond_true] at h
      obtain rfl := kindEq_eq hk
      cases h
      exact run_equalIn_int hd n _ _ _
    · cases h
  · simp only [eqCell] at h
    split at h
    · rename_i s1 s2
      obtain rfl := rv_str hx
      obtain rfl := rv_str hy
      cases h
      exact run_equalIn_str hd n _ _
    · cases h

/-- Two rows of cells and what they read as. -/
structure Two (w : World) (ok : Nat → Prop) (mu : Nat → Option Nat) (T : Tab) (xs ys : Array Value) (l m : List AV) : Prop where
  sx : xs.size = l.length
  sy : ys.size = m.length
  rx : ∀ j, j < l.length → RV w ok mu T false (xs.getD j undef) (lget l j)
  ry : ∀ j, j < m.length → RV w ok mu T false (ys.getD j undef) (lget m j)

theorem viewAt_one {d : TypeDesc} {size off : Nat} {xs : Array Value} (h : isAggB d = false) : viewAt d size xs off = xs.getD off undef := by unfold viewAt; rw [h]
theorem viewAt_agg {d : TypeDesc} {size off : Nat} {xs : Array Value} (h : isAggB d = true) : viewAt d size xs off = .agg (xs.extract off (off + size)) := by unfold viewAt; rw [h]

def EqAt (P : Program) (w : World) (xs ys : Array Value) (l m : List AV) (n : Nat) (t : TypeId) (off : Nat) (offs : List (Nat × Nat)) : Prop :=
  ∀ ti d b, P.info? t = some ti → P.underlying t = some d → 0 < ti.size → off + ti.size ≤ xs.size → off + ti.size ≤ ys.size → eqCells l m offs = some b →
    (Op.equalIn n t (viewAt d ti.size xs off) (viewAt d ti.size ys off)).run P w = .ok b w

theorem eqFields_run {xs ys : Array Value} {l m : List AV} {n S off : Nat} {g : TypeId → Nat → Option (List (Nat × Nat))} (hg : ∀ t o offs, g t o = some offs → EqAt P w xs ys l m n t o offs)
    (hu : ∀ t o offs, g t o = some offs → ∃ d, P.underlying t = some d) (hx : off + S ≤ xs.size) (hy : off + S ≤ ys.size) :
    ∀ (fs : List Field) (offs : List (Nat × Nat)) (b : Bool), leavesF g P S fs off = some offs → eqCells l m offs = some b → (Op.eqFields n (xs.extract off (off + S)) (ys.extract off (off + S)) fs).run P w = .ok b w
  | [], offs, b, h, hb => by
    simp only [leavesF, Option.some.injEq] at h
    subst h
    simp only [eqCells, Option.some.injEq] at hb
    subst hb
    rfl
  | f :: r, offs, b, h, hb => by
    simp only [leavesF] at h
    split at h
    · rename_i ti hname hti
      split at h
      · rename_i A B hc hA hB
        cases h
        simp only [Bool.and_eq_true, Nat.ble_eq, Nat.blt_eq] at hc
        obtain ⟨b1, b2, e1, e2, rfl⟩ := eqCells_append l m A B b hb
        obtain ⟨d, hd⟩ := hu _ _ _ hA
        have p1 := run_part_view (P := P) (w := w) hti hd xs off S f.offset hx hc.1 (fun _ => hc.2)
        have p2 := run_part_view (P := P) (w := w) hti hd ys off S f.offset hy hc.1 (fun _ => hc.2)
        have p3 := hg _ _ _ hA ti d b1 hti hd hc.2 (by omega) (by omega) e1
        have ih := eqFields_run hg hu hx hy r B b2 hB e2
        have hne : f.name ≠ "_" := by simpa using hname
        simp only [Op.eqFields, if_pos hne, Sem.run_bind, p1, p2, p3, Result.andThen_ok]
        cases b1 with
        | false => simp
        | true => simpa using ih
      · cases h
    · cases h

theorem leaves_under {d : Nat} {t : TypeId} {o : Nat} {offs : List (Nat × Nat)} (h : leaves P d t o = some offs) : ∃ d, P.underlying t = some d := by
  cases d with
  | zero => cases h
  | succ d =>
    cases hu : P.underlying t with
    | none => simp [leaves, hu] at h
    | some x => exact ⟨x, rfl⟩

theorem eqElems_run {xs ys : Array Value} {l m : List AV} {n S off : Nat} {e : TypeId} {te : TypeInfo} {de : TypeDesc} {g : Nat → Option (List (Nat × Nat))} (hg : ∀ o offs, g o = some offs → EqAt P w xs ys l m n e o offs)
    (hte : P.info? e = some te) (hde : P.underlying e = some de) (h0 : 0 < te.size) (hx : off + S ≤ xs.size) (hy : off + S ≤ ys.size) :
    ∀ (k i : Nat) (offs : List (Nat × Nat)) (b : Bool), (i + k) * te.size ≤ S → leavesA g te.size k (off + i * te.size) = some offs → eqCells l m offs = some b →
      (forIn (m := Sem) (List.range' i k) ((none, ()) : Option Bool × Unit) fun i _ => do
        let x ← part e (xs.extract off (off + S)) (i * te.size)
        let y ← part e (ys.extract off (off + S)) (i * te.size)
        let r ← Op.equalIn n e x y
        if (!r) = true then pure (ForInStep.done (some false, ())) else pure (ForInStep.yield (none, ()))).run P w = .ok (if b then (none, ()) else (some false, ())) w
  | 0, i, offs, b, _, h, hb => by
    simp only [leavesA, Option.some.injEq] at h
    subst h
    simp only [eqCells, Option.some.injEq] at hb
    subst hb
    simp
  | k + 1, i, offs, b, hS, h, hb => by
    simp only [leavesA] at h
    split at h
    · rename_i A B hA hB
      cases h
      obtain ⟨b1, b2, e1, e2, rfl⟩ := eqCells_append l m A B b hb
      have hle : i * te.size + te.size ≤ S := by
        have := Nat.mul_le_mul_right te.size (show i + 1 ≤ i + (k + 1) by omega)
        rw [Nat.add_mul i 1, Nat.one_mul] at this
        omega
      have p1 := run_part_view (P := P) (w := w) hte hde xs off S (i * te.size) hx hle (fun _ => h0)
      have p2 := run_part_view (P := P) (w := w) hte hde ys off S (i * te.size) hy hle (fun _ => h0)
      have p3 := hg _ _ hA te de b1 hte hde h0 (by omega) (by omega) e1
      have ih := eqElems_run hg hte hde h0 hx hy k (i + 1) B b2 (by rw [show i + 1 + k = i + (k + 1) by omega]; exact hS) (by rw [Nat.add_mul, Nat.one_mul, ← Nat.add_assoc]; exact hB) e2
      rw [List.range'_succ, List.forIn_cons]
      simp only [Sem.run_bind, p1, p2, p3, Result.andThen_ok]
      cases b1 with
      | false => simp
      | true =>
        simp only [Bool.not_true, Bool.false_eq_true, if_false, Sem.run_pure, Result.andThen_ok, Bool.true_and]
        exact ih
    · cases h

theorem equal_view {xs ys : Array Value} {l m : List AV} (h2 : Two w ok mu T xs ys l m) : ∀ (d : Nat) (t : TypeId) (off : Nat) (offs : List (Nat × Nat)) (n : Nat), leaves P d t off = some offs → EqAt P w xs ys l m (n + d) t off offs
  | 0, t, off, offs, n, h => by cases h
  | d + 1, t, off, offs, n, h => by
    intro ti ds b hti hd h0 hx hy hb
    have leaf : ∀ k, offs = [(off, k)] → isAggB ds = false → (k = 0 ∧ P.underlying t = some .bool ∨ k = 1 ∧ (∃ j, P.underlying t = some (.int j)) ∨ k = 2 ∧ P.underlying t = some .string) →
        (Op.equalIn (n + d + 1) t (viewAt ds ti.size xs off) (viewAt ds ti.size ys off)).run P w = .ok b w := by
      intro k e ha hk
      subst e
      simp only [eqCells] at hb
      split at hb
      · rename_i b1 b2 e1 e2
        cases hb
        cases e2
        rw [viewAt_one ha, viewAt_one ha, Bool.and_true]
        have hl := h2.sx
        have hm := h2.sy
        exact eqCell_run (h2.rx off (by omega)) (h2.ry off (by omega)) e1 hk _
      · cases hb
    simp only [leaves, hd, hti] at h
    rw [← Nat.add_assoc]
    cases ds with
    | bool => exact leaf 0 (by simpa using h.symm) rfl (.inl ⟨rfl, hd⟩)
    | int k => exact leaf 1 (by simpa using h.symm) rfl (.inr (.inl ⟨rfl, k, hd⟩))
    | string => exact leaf 2 (by simpa using h.symm) rfl (.inr (.inr ⟨rfl, hd⟩))
    | struct fs =>
      simp only at h
      split at h
      · cases h
      · rename_i hst
        rw [viewAt_agg rfl, viewAt_agg rfl]
        have hst' : P.stoodInHeld t = false := by simpa using hst
        have hf : P.fieldsOf t = fs := by simp [Program.fieldsOf, hd]
        rw [run_equalIn_struct w (n + d) t _ _ (by rw [hf]; exact hd) hst', hf]
        exact eqFields_run (fun t o offs h => equal_view h2 d t o offs n h) (fun t o offs h => leaves_under h) hx hy fs.toList offs b h hb
    | array k e =>
      simp only at h
      split at h
      · rename_i te hte
        split at h
        · rename_i hc
          simp only [Bool.and_eq_true, Nat.ble_eq, Nat.blt_eq] at hc
          rw [viewAt_agg rfl, viewAt_agg rfl]
          cases k with
          | zero =>
            simp only [leavesA, Option.some.injEq] at h
            subst h
            simp only [eqCells, Option.some.injEq] at hb
            subst hb
            simp [Op.equalIn, run_underlying hd, run_sizeOf hte]
          | succ k =>
          have hde : ∃ de, P.underlying e = some de := by
            simp only [leavesA] at h
            split at h
            · rename_i A B hA hB; exact leaves_under hA
            · cases h
          obtain ⟨de, hde⟩ := hde
          have := eqElems_run (P := P) (w := w) (l := l) (m := m) (n := n + d) (S := ti.size) (off := off) (g := leaves P d e) (fun o offs h => equal_view h2 d e o offs n h) hte hde hc.2 hx hy (k + 1) 0 offs b (by rw [Nat.zero_add]; exact hc.1) (by rw [Nat.zero_mul, Nat.add_zero]; exact h) hb
          simp only [Op.equalIn, Sem.run_bind, run_underlying hd, Result.andThen_ok, run_sizeOf hte]
          rw [Std.Legacy.Range.forIn_eq_forIn_range']
          simp only [Std.Legacy.Range.size, Nat.sub_zero, Nat.add_sub_cancel, Nat.div_one]
          rw [this]
          cases b <;> rfl
        · cases h
      · cases h
    | _ => simp at h

end
end Go.Proofs.Ytbpcjahjbkiofaa.AV

set_option linter.unusedVariables false
set_option linter.unusedSimpArgs false
namespace Go.Proofs.Ytbpcjahjbkiofaa.AV
open Go

section
variable {P : Program} {G : Ctx} {w : World} {ok : Nat → Prop} {mu : Nat → Option Nat} {T : Tab} {env : Env} {a : Act} {o : Oper} {nid : Nat}

theorem did_eqA (I : Inv G ok mu T w) (E : EnvOK w ok mu T env a.tmps) {op : BinOp} {n : Bool} {t t' : TypeId} {d : TypeDesc} {ti : TypeInfo} {offs : List (Nat × Nat)} {x y : Operand} {X Y : Opd} (hop : o.op = .binOp op t x y t') (hn : isNegE op = some n) (hx : opd x = some X) (hy : opd y = some Y)
    (hd : P.underlying t = some d) (ha : isAggB d = true) (hi : P.info? t = some ti) (h0 : ti.size ≠ 0) (hg : P.eqGuardType P.depth t = false) (hl : leaves P 20 t 0 = some offs)
    {v u} (hv : opV (.eqA n ti.size offs X Y) env T nid = some (v, u)) : Did P o a w ok mu T v u := by
  have rx := opd_rv E hx
  have ry := opd_rv E hy
  simp only [opV] at hv
  split at hv
  · rename_i l m hX hY
    rw [hX] at rx
    rw [hY] at ry
    cases hc : Nat.beq l.length ti.size && Nat.beq m.length ti.size with
    | false => rw [hc] at hv; cases hv
    | true =>
    rw [hc, cond_true] at hv
    simp only [Bool.and_eq_true, Nat.beq_eq] at hc
    split at hv
    · rename_i b hb
      cases hv
      obtain ⟨xs, e1, s1, _, r1⟩ := rv_agg rx
      obtain ⟨ys, e2, s2, _, r2⟩ := rv_agg ry
      have := equal_view (P := P) (⟨s1, s2, r1, r2⟩ : Two w ok mu T xs ys l m) 20 t 0 offs 9980 hl ti d b hi hd (by omega) (by omega) (by omega) hb
      rw [viewAt_agg ha, viewAt_agg ha, Nat.zero_add] at this
      have ex : xs.extract 0 ti.size = xs := by rw [← hc.1, ← s1, Array.extract_size]
      have ey : ys.extract 0 ti.size = ys := by rw [← hc.2, ← s2, Array.extract_size]
      rw [ex, ey] at this
      refine Did.pure (x := .bool (negB n b)) I (run_exec_bin hop ?_ ?_) (.bool _ _)
      · rw [e1, e2]; exact run_eqGuard_agg w op t x y xs ys hg
      · rw [e1, e2]
        exact run_eqOp hn this (fun _ _ h => by cases h) (fun _ _ h => by cases h) (fun _ _ _ h => by cases h) (fun _ h => by cases h)
    · cases hv
  · cases hv

theorem opd_pnil {y : Operand} (h : opd y = some (.c (.pointer none))) : a.eval y = .pointer none := by
  cases y <;> simp only [opd, Option.some.injEq, reduceCtorEq, Opd.c.injEq] at h
  subst h; rfl

/-- **What runs straight on does what the abstract operation says.** -/
theorem opV_sound (hf : tget T nid = .fresh) (I : Inv G ok mu T w) (E : EnvOK w ok mu T env a.tmps) {p : AOp} (hc : cOp P o = some p) {v u} (hv : opV p env T nid = some (v, u)) : Did P o a w ok mu T v u := by
  unfold cOp at hc
  split at hc
  · rename_i x hop
    obtain ⟨X, hx, rfl⟩ := Option.map_eq_some_iff.1 hc
    exact did_mv I E (.inl hop) hx hv
  · rename_i x hop
    obtain ⟨X, hx, rfl⟩ := Option.map_eq_some_iff.1 hc
    exact did_mv I E (.inr hop) hx hv
  · rename_i c x y hop
    split at hc
    · rename_i C X Y h1 h2 h3
      cases hc
      exact did_pick I E hop h1 h2 h3 hv
    · cases hc
  · rename_i t hop
    split at hc
    · rename_i ti d hi hd
      split at hc
      · rename_i z hz
        split at hc
        · rename_i n e
          split at hc
          · split at hc
            · rename_i hp
              cases hc
              exact did_alloc hf I hop hi hz hp hv
            · cases hc
          split at hc
          · rename_i c r hcells
            split at hc
            · rename_i hcond
              cases hc
              simp only [Bool.and_eq_true, Nat.beq_eq, Nat.blt_eq] at hcond
              obtain ⟨⟨⟨⟨h1, h2⟩, h3⟩, h4⟩, h5⟩ := hcond
              exact did_allocA hf I hop hi hz h2 h1 (by unfold maxLen; omega) hcells h4 h5 hv
            · cases hc
          · cases hc
        · split at hc
          · rename_i hp
            cases hc
            exact did_alloc hf I hop hi hz hp hv
          · cases hc
      · cases hc
    · cases hc
  · rename_i e x hop
    obtain ⟨X, hx, rfl⟩ := Option.map_eq_some_iff.1 hc
    exact did_box hf I E hop hx hv
  · rename_i t x hop
    split at hc
    · rename_i ti d X hi hd hx
      cases hc
      exact did_ld I E hop hi hd hx hv
    · cases hc
  · rename_i t x y hop
    split at hc
    · rename_i ti X Y hi hx hy
      cases hc
      exact did_st I E hop hi hx hy hv
    · cases hc
  · rename_i x hop
    obtain ⟨X, hx, rfl⟩ := Option.map_eq_some_iff.1 hc
    exact did_nilc I E hop hx hv
  · rename_i op t x y t' hop
    unfold cBin at hc
    split at hc
    · rename_i X Y d hx hy hd
      split at hc
      · split at hc
        · rename_i n l ti hn hl hi
          split at hc
          · cases hc
          · rename_i hg
            cases hc
            simp only [Bool.or_eq_true, Nat.beq_eq, not_or, Bool.not_eq_true] at hg
            exact did_eqA I E hop hn hx hy hd rfl hi hg.2 hg.1 hl hv
        · cases hc
      · split at hc
        · rename_i n l ti hn hl hi
          split at hc
          · cases hc
          · rename_i hg
            cases hc
            simp only [Bool.or_eq_true, Nat.beq_eq, not_or, Bool.not_eq_true] at hg
            exact did_eqA I E hop hn hx hy hd rfl hi hg.2 hg.1 hl hv
        · cases hc
      · split at hc
        · cases hc; cases hv
        · cases hc
      · split at hc
        · rename_i n hn
          cases hc
          exact did_eqNilP I E hop hn hx (opd_pnil hy) hd hv
        · cases hc
      · cases hc
        exact did_bin I E hop hx hy hv
      · split at hc
        · rename_i n hn
          cases hc
          exact did_binB I E hop hn hx hy hd hv
        · cases hc
      · split at hc
        · rename_i n hn
          cases hc
          exact did_binS I E hop hn hx hy hv
        · cases hc
      · cases hc
    · cases hc
  · rename_i t x hop
    obtain ⟨X, hx, rfl⟩ := Option.map_eq_some_iff.1 hc
    exact did_not I E hop hx hv
  · rename_i t x hop
    obtain ⟨X, hx, rfl⟩ := Option.map_eq_some_iff.1 hc
    exact did_neg I E hop hx hv
  · rename_i t x i hop
    split at hc
    · rename_i fs X hd hx
      split at hc
      · rename_i f hf
        split at hc
        · rename_i ti hi
          split at hc
          · cases hc
          · rename_i h0
            cases hc
            rw [Nat.beq_eq] at h0
            exact did_fa I E hop hd hf hi h0 hx hv
        · cases hc
      · cases hc
    · cases hc
  · rename_i t x i hop
    split at hc
    · rename_i fs X hd hx
      split at hc
      · rename_i f hf
        split at hc
        · rename_i ti d hi hdf
          cases hc
          exact did_fld I E hop hd hf hi hdf hx hv
        · cases hc
      · cases hc
    · cases hc
  · rename_i t x i hop
    split at hc
    · split at hc
      · split at hc
        · cases hc; cases hv
        · cases hc
      · cases hc
    · split at hc
      · split at hc
        · cases hc; cases hv
        · cases hc
      · cases hc
    · cases hc
  · split at hc
    · cases hc; cases hv
    · cases hc
  · rename_i t ps hop
    split at hc
    · rename_i fs ti hd hi
      split at hc
      · rename_i z l hz hl
        split at hc
        · rename_i hp
          cases hc
          simp only [Bool.and_eq_true] at hp
          exact did_bldS I E hop hd hi hz hl hp.1 hp.2 hv
        · cases hc
      · cases hc
    · rename_i n e ti hd hi
      split at hc
      · rename_i z te hz hte
        split at hc
        · rename_i l hl
          split at hc
          · rename_i hp
            cases hc
            exact did_bldA I E hop hd hi hz hte hl hp hv
          · cases hc
        · cases hc
      · cases hc
    · cases hc
  · rename_i t len ps hop
    split at hc
    · rename_i e hd
      split at hc
      · rename_i ti l hi hl
        split at hc
        · rename_i z hz
          split at hc
          · rename_i hcond
            simp only [Bool.and_eq_true, Nat.beq_eq, Nat.blt_eq, beq_iff_eq] at hcond
            obtain ⟨⟨⟨⟨h1, h2⟩, h3⟩, h4⟩, h5⟩ := hcond
            split at hc
            · cases hc
              exact did_bslF I E hop hd hi hz hl h1 h2 h3 h4 h5 hv
            · cases hc
              exact did_bsl hf I E hop hd hi hz hl h1 h2 h3 h4 h5 hv
          · cases hc
        · cases hc
      · cases hc
    · cases hc
  · rename_i x n hop
    obtain ⟨X, hx, rfl⟩ := Option.map_eq_some_iff.1 hc
    exact did_ext I E hop hx hv
  · rename_i s d x hop
    split at hc
    · rename_i j k X hs hd hx
      cases hc
      exact did_cvI I E hop hs hd hx hv
    · split at hc
      · cases hc; cases hv
      · cases hc
    · split at hc
      · cases hc; cases hv
      · cases hc
    · cases hc
  · split at hc
    · split at hc
      · split at hc
        · cases hc; cases hv
        · cases hc
      · cases hc
    · cases hc; cases hv
    · cases hc
  · split at hc
    · split at hc
      · split at hc
        · split at hc
          · cases hc; cases hv
          · cases hc
        · cases hc
      · cases hc
    · cases hc
  · rename_i f first cap hop
    split at hc
    · rename_i l hf hl
      cases hc
      exact did_fn I E hop hf hl hv
    · cases hc
  · rename_i c hop
    unfold cCall at hc
    split at hc
    · split at hc
      · split at hc
        · cases hc; cases hv
        · (repeat' split at hc) <;> cases hc <;> cases hv
      · cases hc
    · split at hc
      · cases hc; cases hv
      · cases hc
    · rename_i hb
      split at hc
      · rename_i x t ha ht
        split at hc
        · rename_i X e hx hd
          cases hc
          exact did_len I E hop hb ha ht hd hx hv
        · rename_i X hx hd
          cases hc
          exact did_lenS I E hop hb ha ht hd hx hv
        · cases hc
      · cases hc
    · (repeat' split at hc) <;> cases hc <;> cases hv
    · rename_i hb
      split at hc
      · rename_i X Y ha
        cases hc
        exact did_mnmx (mx := true) I E hop hb ha hv
      · cases hc
    · rename_i hb
      split at hc
      · rename_i X Y ha
        cases hc
        exact did_mnmx (mx := false) I E hop hb ha hv
      · cases hc
    all_goals ((repeat' split at hc) <;> cases hc <;> cases hv)
  · cases hc

end
end Go.Proofs.Ytbpcjahjbkiofaa.AV

set_option linter.unusedVariables false
set_option linter.unusedSimpArgs false
namespace Go.Proofs.Ytbpcjahjbkiofaa.AV
open Go

inductive AExit where
  | normal
  | exit (id : Nat)
  | ret

def toX : AExit → Exit
  | .normal => .normal
  | .exit id => .exit id
  | .ret => .ret

abbrev Post := AExit → Env → Tab → Prop

/-- The machine's post that an abstract one stands for. -/
def LP (G : Ctx) (nt : Nat) (Q : Post) : Exit → Act → World → Prop := fun x a w => ∃ ax env T, x = toX ax ∧ Rel G nt env T a w ∧ Q ax env T

/-- A code, begun in a state, comes to a state of which Q holds. -/
structure SC (P : Program) (nt : Nat) (c : ACode) (env : Env) (T : Tab) (Q : Post) : Prop where
  out : ∀ m, cCode P nt m = some c → ∀ G a w, Rel G nt env T a w → m.wp P (LP G nt Q) a w

/-- So for a row of operations. -/
structure SO (P : Program) (nt : Nat) (l : List AOper) (env : Env) (T : Tab) (K : Env → Tab → Prop) : Prop where
  out : ∀ (mo : Array Oper) (i : Nat), cOpers P nt mo (mo.toList.drop i) = some l → ∀ G a w, Rel G nt env T a w → ∀ Qm : Exit → Act → World → Prop,
    (∀ a' w' env' T', Rel G nt env' T' a' w' → K env' T' → Qm .normal a' w') → wpOps P mo Qm ((List.range mo.size).drop i) a w

def bindE (env : Env) (d : Option Nat) (v : AV) : Env := match d with
  | some n => (n, v) :: env
  | none => env

theorem range_drop (n i : Nat) (h : i < n) : (List.range n).drop i = i :: (List.range n).drop (i + 1) := by
  rw [List.drop_eq_getElem_cons (by simpa using h)]
  simp

theorem drop_cons {mo : Array Oper} {i : Nat} {o : AOper} {r : List AOper} {P : Program} {nt : Nat} (h : cOpers P nt mo (mo.toList.drop i) = some (o :: r)) :
    ∃ mo_i, mo[i]? = some mo_i ∧ i < mo.size ∧ cOper P nt mo mo_i = some o ∧ cOpers P nt mo (mo.toList.drop (i + 1)) = some r := by
  by_cases hi : i < mo.size
  · rw [List.drop_eq_getElem_cons (by simpa using hi)] at h
    simp only [cOpers] at h
    split at h
    · rename_i x y h1 h2
      cases h
      exact ⟨mo[i], by simp [hi], hi, by simpa using h1, h2⟩
    · cases h
  · rw [List.drop_eq_nil_of_le (by simp; omega)] at h
    simp [cOpers] at h

theorem drop_nil {mo : Array Oper} {i : Nat} {P : Program} {nt : Nat} (h : cOpers P nt mo (mo.toList.drop i) = some []) : (List.range mo.size).drop i = [] := by
  by_cases hi : i < mo.size
  · rw [List.drop_eq_getElem_cons (by simpa using hi)] at h
    simp only [cOpers] at h
    split at h <;> cases h
  · exact List.drop_eq_nil_of_le (by simp; omega)

/-- What the translation says of one operation. -/
theorem cOper_spec {P : Program} {nt : Nat} {mo : Array Oper} {o : Oper} {ao : AOper} (h : cOper P nt mo o = some ao) :
    cOp P o = some ao.op ∧ o.dst = ao.dst ∧ (∀ d, ao.dst = some d → d < nt) ∧
      match ao.guard with
      | none => o.guard = none
      | some (s, b) => ∃ j, o.guard = some (j, b) ∧ (mo[j]?).bind (·.dst) = some s := by
  unfold cOper at h
  split at h
  · cases h
  · rename_i p hp
    have hdst : ∀ d, dstOk nt o.dst = true → o.dst = some d → d < nt := fun d h1 h2 => by
      rw [h2] at h1
      simpa [dstOk] using h1
    split at h
    · cases h
    · rename_i hok
      split at h
      · rename_i hg
        cases h
        exact ⟨hp, rfl, fun d e => hdst d hok e, hg⟩
      · rename_i j b hg
        split at h
        · rename_i s hs
          cases h
          exact ⟨hp, rfl, fun d e => hdst d hok e, j, hg, hs⟩
        · cases h

section
variable {P : Program} {nt : Nat} {env : Env} {T : Tab}

theorem EnvOK.put {w : World} {ok : Nat → Prop} {mu : Nat → Option Nat} {T : Tab} {a : Act} (E : EnvOK w ok mu T env a.tmps) {x : Value} {v : AV} (hv : RV w ok mu T false x v) {dst : Option Nat} (hd : ∀ d, dst = some d → d < a.tmps.size) :
    EnvOK w ok mu T (bindE env dst v) (a.put dst x).tmps := by
  cases dst with
  | none => exact E
  | some d =>
    intro i
    show RV w ok mu T false ((a.tmps.setIfInBounds d x).getD i undef) (eget ((d, v) :: env) i)
    rw [eget_cons]
    by_cases h : i = d
    · subst h
      rw [if_pos rfl]
      have := hd i rfl
      simpa [this] using hv
    · rw [if_neg h]
      have := E i
      rw [Array.getD_eq_getD_getElem?, Array.getElem?_setIfInBounds, if_neg (by omega), ← Array.getD_eq_getD_getElem?]
      exact this

theorem put_size (a : Act) (dst : Option Nat) (x : Value) : (a.put dst x).tmps.size = a.tmps.size := by
  cases dst <;> simp [Act.put]
theorem put_defers (a : Act) (dst : Option Nat) (x : Value) : (a.put dst x).defers = a.defers := by
  cases dst <;> rfl

theorem Rel.put {G : Ctx} {a : Act} {w w' : World} {ok ok' : Nat → Prop} {mu mu' : Nat → Option Nat} {T' : Tab} {x : Value} {v : AV} {dst : Option Nat} (hdef : a.defers = [] ∧ G.T0.length ≤ 4) (hs : a.tmps.size = nt) (I : Inv G ok mu T w) (E : EnvOK w ok mu T env a.tmps)
    (N : Go.Proofs.Ytbpcjahjbkiofaa.AV.Next ok ok' mu mu' T T' w w') (hv : RV w' ok' mu' T' false x v) (hd : ∀ d, dst = some d → d < nt) : Rel G nt (bindE env dst v) T' (a.put dst x) w' :=
  ⟨by rw [put_defers]; exact hdef, by rw [put_size]; exact hs, ok', mu', I.next N, EnvOK.put (N.env I E) hv (by rw [hs]; exact hd)⟩

theorem Rel.put_top {G : Ctx} {a : Act} {w : World} {x : Value} {dst : Option Nat} (R : Rel G nt env T a w) (hd : ∀ d, dst = some d → d < nt) : Rel G nt (bindE env dst .top) T (a.put dst x) w := by
  obtain ⟨h1, h2, ok, mu, I, E⟩ := R
  exact Rel.put h1 h2 I E (Next.same I rfl rfl rfl rfl) (.top _ _) hd

theorem SO.nil {K : Env → Tab → Prop} (h : K env T) : SO P nt [] env T K :=
  ⟨fun mo i hc G a w R Qm hq => by rw [drop_nil hc]; exact hq a w env T R h⟩

def wantB : Option (Nat × Bool) → Env → Option Bool
  | none, _ => some true
  | some (s, b), env => match eget env s with
    | .tt => some b
    | .ff => some (!b)
    | _ => none

theorem wanted_of {G : Ctx} {mo : Array Oper} {o : Oper} {ao : AOper} {a : Act} {w : World} (R : Rel G nt env T a w) (h : cOper P nt mo o = some ao) {b : Bool} (hb : wantB ao.guard env = some b) : Region.wanted o (yielded mo a.tmps) = b := by
  obtain ⟨_, _, _, hg⟩ := cOper_spec h
  cases hag : ao.guard with
  | none =>
    rw [hag] at hg hb
    simp only [wantB, Option.some.injEq] at hb
    subst hb
    simp [Region.wanted, hg]
  | some sb =>
    obtain ⟨s, b0⟩ := sb
    rw [hag] at hg hb
    obtain ⟨j, hj, hs⟩ := hg
    obtain ⟨_, _, ok, mu, I, E⟩ := R
    have rs := E s
    simp only [wantB] at hb
    have hy : ∀ c, a.tmps.getD s undef = .bool c → yielded mo a.tmps j = some c := fun c hc => by
      have hlt : s < a.tmps.size := by
        rcases Nat.lt_or_ge s a.tmps.size with h | h
        · exact h
        · rw [Array.getD_eq_getD_getElem?, Array.getElem?_eq_none h] at hc
          cases hc
      have : a.tmps[s]? = some (.bool c) := by
        rw [Array.getD_eq_getD_getElem?, Array.getElem?_eq_getElem hlt] at hc
        rw [Array.getElem?_eq_getElem hlt]
        exact congrArg some hc
      simp [yielded, hs, this]
    split at hb
    · rename_i he
      rw [he] at rs
      cases hb
      simp only [Region.wanted, hj]
      rw [hy true (rv_tt rs)]
      cases b <;> rfl
    · rename_i he
      rw [he] at rs
      cases hb
      simp only [Region.wanted, hj]
      rw [hy false (rv_ff rs)]
      cases b0 <;> rfl
    · cases hb

/-- An operation, begun in a state, gives v and leaves the table T'. -/
structure Does (P : Program) (p : AOp) (env : Env) (T : Tab) (v : AV) (T' : Tab) : Prop where
  out : ∀ {G : Ctx} {w : World} {ok : Nat → Prop} {mu : Nat → Option Nat} {a : Act} {o : Oper}, cOp P o = some p → Inv G ok mu T w → EnvOK w ok mu T env a.tmps → DidT P o a w ok mu T v T'

theorem Does.straight {p : AOp} {v : AV} {u : Option (Nat × Ob)} (hv : opV p env T T.length = some (v, u)) : Does P p env T v (tupd T u) :=
  ⟨fun h1 I E => opV_sound (fresh_len T) I E h1 hv⟩

theorem SO.does {o : AOper} {r : List AOper} {K : Env → Tab → Prop} {v : AV} {T' : Tab} (hw : wantB o.guard env = some true) (hv : Does P o.op env T v T') (h : SO P nt r (bindE env o.dst v) T' K) :
    SO P nt (o :: r) env T K := by
  refine ⟨fun mo i hc G a w R Qm hq => ?_⟩
  obtain ⟨m, hm, hi, hco, hcr⟩ := drop_cons hc
  rw [range_drop _ _ hi]
  obtain ⟨h1, h2, h3, _⟩ := cOper_spec hco
  simp only [wpOps, hm, wanted_of R hco hw, if_true]
  obtain ⟨hdef, hs, ok, mu, I, E⟩ := R
  obtain ⟨nx, x, w', ok', mu', hrun, hnx, N, hx⟩ := hv.out h1 I E
  left
  unfold Oper.wp
  rw [hrun]
  have R' := Rel.put hdef hs I E N hx h3
  have := h.out mo (i + 1) hcr G _ _ R' Qm hq
  rcases hnx with rfl | ⟨rfl, rfl⟩
  · simp only [Oper.upon, h2]; exact this
  · simp only [Oper.upon, h2]; exact this

theorem SO.step {o : AOper} {r : List AOper} {K : Env → Tab → Prop} {v : AV} {u : Option (Nat × Ob)} (hw : wantB o.guard env = some true) (hv : opV o.op env T T.length = some (v, u)) (h : SO P nt r (bindE env o.dst v) (tupd T u) K) :
    SO P nt (o :: r) env T K := SO.does hw (.straight hv) h

theorem SO.skip {o : AOper} {r : List AOper} {K : Env → Tab → Prop} (hw : wantB o.guard env = some false) (h : SO P nt r (bindE env o.dst .top) T K) : SO P nt (o :: r) env T K := by
  refine ⟨fun mo i hc G a w R Qm hq => ?_⟩
  obtain ⟨m, hm, hi, hco, hcr⟩ := drop_cons hc
  rw [range_drop _ _ hi]
  obtain ⟨h1, h2, h3, _⟩ := cOper_spec hco
  simp only [wpOps, hm, wanted_of R hco hw, Bool.false_eq_true, if_false]
  have := h.out mo (i + 1) hcr G _ _ (R.put_top (x := undef) h3) Qm hq
  rw [h2]
  exact this

/-- Knowing less. -/
def Wk (env : Env) (T : Tab) (env' : Env) (T' : Tab) : Prop := ∀ (G : Ctx) (nt : Nat) (a : Act) (w : World), Rel G nt env T a w → Rel G nt env' T' a w

theorem SO.wk {env' : Env} {T' : Tab} {l : List AOper} {K : Env → Tab → Prop} (hk : Wk env T env' T') (h : SO P nt l env' T' K) : SO P nt l env T K :=
  ⟨fun mo i hc G a w R => h.out mo i hc G a w (hk G nt a w R)⟩
theorem SC.wk {env' : Env} {T' : Tab} {c : ACode} {Q : Post} (hk : Wk env T env' T') (h : SC P nt c env' T' Q) : SC P nt c env T Q :=
  ⟨fun m hm G a w R => h.out m hm G a w (hk G nt a w R)⟩

theorem SO.mono {l : List AOper} {K K' : Env → Tab → Prop} (h : SO P nt l env T K) (hk : ∀ e t, K e t → K' e t) : SO P nt l env T K' :=
  ⟨fun mo i hc G a w R Qm hq => h.out mo i hc G a w R Qm fun a' w' e t R' k => hq a' w' e t R' (hk e t k)⟩

theorem LP.mono {G : Ctx} {Q Q' : Post} (h : ∀ x e t, Q x e t → Q' x e t) : ∀ x a w, LP G nt Q x a w → LP G nt Q' x a w := fun x a w ⟨ax, e, t, h1, h2, h3⟩ => ⟨ax, e, t, h1, h2, h _ _ _ h3⟩

theorem SC.mono {c : ACode} {Q Q' : Post} (h : SC P nt c env T Q) (hq : ∀ x e t, Q x e t → Q' x e t) : SC P nt c env T Q' :=
  ⟨fun m hm G a w R => wp_mono (h.out m hm G a w R) (LP.mono hq)⟩

theorem SC.skip {Q : Post} (h : Q .normal env T) : SC P nt .skip env T Q := by
  refine ⟨fun m hm G a w R => ?_⟩
  cases m <;> simp only [cCode, Option.some.injEq, reduceCtorEq] at hm
  · exact wp_skip ⟨.normal, env, T, rfl, R, h⟩
  all_goals (repeat' split at hm) <;> first | cases hm | simp at hm

theorem SC.ret {Q : Post} (h : Q .ret env T) : SC P nt .ret env T Q := by
  refine ⟨fun m hm G a w R => ?_⟩
  cases m <;> simp only [cCode, Option.some.injEq, reduceCtorEq] at hm
  case ret => exact wp_ret ⟨.ret, env, T, rfl, R, h⟩
  all_goals (repeat' split at hm) <;> first | cases hm | simp at hm

theorem SC.exit {Q : Post} {id : Nat} (h : Q (.exit id) env T) : SC P nt (.exit id) env T Q := by
  refine ⟨fun m hm G a w R => ?_⟩
  cases m <;> simp only [cCode, Option.some.injEq, reduceCtorEq, ACode.exit.injEq] at hm
  case exit => subst hm; exact wp_exit ⟨.exit _, env, T, rfl, R, h⟩
  all_goals (repeat' split at hm) <;> first | cases hm | simp at hm

theorem SC.reg {l : List AOper} {Q : Post} (h : SO P nt l env T fun e t => Q .normal e t) : SC P nt (.reg l) env T Q := by
  refine ⟨fun m hm G a w R => ?_⟩
  cases m <;> simp only [cCode, Option.some.injEq, reduceCtorEq] at hm
  case region id ops d =>
    split at hm
    · rename_i l' hl
      cases d with
      | true => simp only at hm; (repeat' split at hm) <;> cases hm
      | false =>
        cases hm
        refine wp_region ?_
        have := h.out ops 0 (by simpa using hl) G a w R (LP G nt Q) fun a' w' e t R' k => ⟨.normal, e, t, rfl, R', k⟩
        simpa using this
    · cases hm
  all_goals (repeat' split at hm) <;> first | cases hm | simp at hm

def seqQ (P : Program) (nt : Nat) (b : ACode) (Q : Post) : Post
  | .normal, e, t => SC P nt b e t Q
  | x, e, t => Q x e t

theorem SC.seq {c d : ACode} {Q : Post} (h : SC P nt c env T (seqQ P nt d Q)) : SC P nt (.seq c d) env T Q := by
  refine ⟨fun m hm G a w R => ?_⟩
  cases m <;> simp only [cCode, Option.some.injEq, reduceCtorEq] at hm
  case seq x y =>
    split at hm
    · rename_i x' y' hx hy
      cases hm
      refine wp_seq (wp_mono (h.out x hx G a w R) ?_)
      rintro e a' w' ⟨ax, env', T', rfl, R', hq⟩
      cases ax with
      | normal => exact hq.out y hy G a' w' R'
      | exit id => exact ⟨.exit id, env', T', rfl, R', hq⟩
      | ret => exact ⟨.ret, env', T', rfl, R', hq⟩
    · cases hm
  all_goals (repeat' split at hm) <;> first | cases hm | simp at hm

def blockQ (id : Nat) (Q : Post) : Post
  | .exit j, e, t => if j = id then Q .normal e t else Q (.exit j) e t
  | x, e, t => Q x e t

theorem SC.block {c : ACode} {id : Nat} {Q : Post} (h : SC P nt c env T (blockQ id Q)) : SC P nt (.block id c) env T Q := by
  refine ⟨fun m hm G a w R => ?_⟩
  cases m <;> simp only [cCode, Option.some.injEq, reduceCtorEq] at hm
  case block id' x =>
    split at hm
    · rename_i x' hx
      cases hm
      refine wp_block (wp_mono (h.out x hx G a w R) ?_)
      rintro e a' w' ⟨ax, env', T', rfl, R', hq⟩
      cases ax with
      | normal => exact ⟨.normal, env', T', rfl, R', hq⟩
      | ret => exact ⟨.ret, env', T', rfl, R', hq⟩
      | exit j =>
        simp only [blockQ] at hq
        simp only [toX, Exit.inBlock]
        split at hq
        · rename_i e; rw [if_pos e]; exact ⟨.normal, env', T', rfl, R', hq⟩
        · rename_i e; rw [if_neg e]; exact ⟨.exit j, env', T', rfl, R', hq⟩
    · cases hm
  all_goals (repeat' split at hm) <;> first | cases hm | simp at hm

theorem SC.cond {x : Opd} {c d : ACode} {Q : Post} {b : Bool} (hb : boolOf (oval env x) = some b) (h1 : b = true → SC P nt c env T Q) (h2 : b = false → SC P nt d env T Q) : SC P nt (.cond x c d) env T Q := by
  refine ⟨fun m hm G a w R => ?_⟩
  cases m <;> simp only [cCode, Option.some.injEq, reduceCtorEq] at hm
  case cond p y z =>
    split at hm
    · rename_i p' y' z' hp hy hz
      cases hm
      obtain ⟨_, _, ok, mu, I, E⟩ := R
      have hv := rv_boolOf (opd_rv E hp) hb
      have R : Rel G nt env T a w := ⟨‹_›, ‹_›, ok, mu, I, E⟩
      refine wp_cond_split hv (fun e => ?_) (fun e => ?_)
      · exact (h1 e).out y hy G a w R
      · exact (h2 e).out z hz G a w R
    · cases hm
  all_goals (repeat' split at hm) <;> first | cases hm | simp at hm

def loopQ (Q : Post) (K : Env → Tab → Prop) : Post
  | .normal, e, t => K e t
  | x, e, t => Q x e t

/-- A loop: a state for each index; every round goes from one to one whose measure is lower. -/
theorem SC.loop {c : ACode} {Q : Post} {ι : Type} (S : ι → Env) (U : ι → Tab) (m : ι → Nat) (i0 : ι) (h0 : Wk env T (S i0) (U i0))
    (hr : ∀ i, SC P nt c (S i) (U i) (loopQ Q fun e t => ∃ j, m j < m i ∧ Wk e t (S j) (U j))) : SC P nt (.loop c) env T Q := by
  refine ⟨fun mc hm G a w R => ?_⟩
  cases mc <;> simp only [cCode, Option.some.injEq, reduceCtorEq] at hm
  case loop x =>
    split at hm
    · rename_i x' hx
      cases hm
      -- by induction on the measure, with a loop rule of our own
      intro b k cs
      have key : ∀ n i, m i = n → ∀ a w, Rel G nt (S i) (U i) a w → ∃ e a' w', LP G nt Q e a' w' ∧ Arrives P (lone (b.at a (.code x :: .inLoop x :: k)) cs w) b k cs e a' w' := by
        intro n
        induction n using Nat.strongRecOn with
        | _ n ih =>
          intro i hi a w R
          obtain ⟨e, a₁, w₁, hq, harr⟩ := (hr i).out x hx G a w R b (.inLoop x :: k) cs
          obtain ⟨ax, env', T', rfl, R', hq⟩ := hq
          cases ax with
          | normal =>
            obtain ⟨j, hj, hk⟩ := hq
            have R2 := hk G nt _ _ R'
            obtain ⟨e₂, a₂, w₂, hq₂, harr₂⟩ := ih (m j) (by omega) j rfl a₁ w₁ R2
            exact ⟨e₂, a₂, w₂, hq₂, .of_steps (Steps.trans harr (.one step_inLoop)) harr₂⟩
          | exit id => exact ⟨_, a₁, w₁, ⟨.exit id, env', T', rfl, R', hq⟩, .pass (x := .inLoop x) rfl (fun _ _ => .inl (by simp [toX])) harr⟩
          | ret => exact ⟨_, a₁, w₁, ⟨.ret, env', T', rfl, R', hq⟩, .pass (x := .inLoop x) rfl (fun _ _ => .inl (by simp [toX])) harr⟩
      obtain ⟨e, a', w', hq, harr⟩ := key _ i0 rfl a w (h0 G nt a w R)
      exact ⟨e, a', w', hq, .of_steps (.one step_loop) harr⟩
    · cases hm
  all_goals (repeat' split at hm) <;> first | cases hm | simp at hm

end
end Go.Proofs.Ytbpcjahjbkiofaa.AV

set_option linter.unusedVariables false
set_option linter.unusedSimpArgs false
namespace Go.Proofs.Ytbpcjahjbkiofaa.AV
open Go

/-! ### Knowing less of a value -/

def Le (x y : AV) : Prop := ∀ (w : World) (ok : Nat → Prop) (mu : Nat → Option Nat) (T : Tab) (z : Bool) (v : Value), RV w ok mu T z v x → RV w ok mu T z v y

theorem Le.refl (x : AV) : Le x x := fun _ _ _ _ _ _ h => h
theorem Le.of_eq {x y : AV} (h : x = y) : Le x y := h ▸ .refl x
theorem Le.top (x : AV) : Le x .top := fun _ _ _ _ _ _ _ => .top _ _
theorem Le.int {k : IntKind} {m n : Int} (h : m = n) : Le (.int k m) (.int k n) := h ▸ .refl _
theorem Le.bool {a b : Bool} (h : a = b) : Le (.bool a) (.bool b) := h ▸ .refl _
theorem Le.tt {b : Bool} (h : b = true) : Le .tt (.bool b) := fun _ _ _ _ _ _ hv => by subst h; rw [rv_tt hv]; exact .bool _ _
theorem Le.ff {b : Bool} (h : b = false) : Le .ff (.bool b) := fun _ _ _ _ _ _ hv => by subst h; rw [rv_ff hv]; exact .bool _ _
theorem Le.str {a b : ByteArray} (h : a = b) : Le (.str a) (.str b) := h ▸ .refl _
theorem Le.trans {x y z : AV} (h : Le x y) (k : Le y z) : Le x z := fun w ok mu T b v hv => k w ok mu T b v (h w ok mu T b v hv)

/-- Cell by cell. -/
def LeL (l m : List AV) : Prop := l.length = m.length ∧ ∀ j, j < l.length → Le (lget l j) (lget m j)
theorem LeL.nil : LeL [] [] := ⟨rfl, fun j hj => by simp at hj⟩
theorem LeL.cons {x y : AV} {l m : List AV} (h : Le x y) (k : LeL l m) : LeL (x :: l) (y :: m) :=
  ⟨by simp [k.1], fun j hj => by
    cases j with
    | zero => exact h
    | succ j => exact k.2 j (by simpa using hj)⟩
theorem LeL.refl (l : List AV) : LeL l l := ⟨rfl, fun j _ => .refl _⟩

theorem Le.agg {l m : List AV} (h : LeL l m) : Le (.agg l) (.agg m) := fun w ok mu T z v hv => by
  obtain ⟨cs, rfl, hs, h1, hr⟩ := rv_agg hv
  exact .agg _ _ _ (by rw [hs, h.1]) (fun j hj => h1 j (by rw [h.1]; exact hj)) fun j hj => h.2 j (by rw [h.1]; exact hj) _ _ _ _ _ _ (hr j (by rw [h.1]; exact hj))
theorem Le.tuple {l m : List AV} (h : LeL l m) : Le (.tuple l) (.tuple m) := fun w ok mu T z v hv => by
  obtain ⟨cs, rfl, hs, hr⟩ := rv_tuple hv
  exact .tuple _ _ _ (by rw [hs, h.1]) fun j hj => h.2 j (by rw [h.1]; exact hj) _ _ _ _ _ _ (hr j (by rw [h.1]; exact hj))
theorem Le.list {sz n m : Nat} {f g : Nat → List AV} (h : n = m) (hf : ∀ i, i < n → LeL (f i) (g i)) : Le (.list sz n f) (.list sz m g) := fun w ok mu T z v hv => by
  subst h
  obtain ⟨a, cap, cv, rfl, hn, hc, hs, ha, hl, h1, hr⟩ := rv_list hv
  refine .list _ a cap sz n g cv hn hc hs ha (fun i hi => by rw [← (hf i hi).1]; exact hl i hi) h1 fun i o hi ho => ?_
  exact (hf i hi).2 o (by rw [hl i hi]; exact ho) _ _ _ _ _ _ (hr i o hi ho)
theorem Le.zsl {sz : Nat} {f : Nat → List AV} (hs : 0 < sz) : Le .zsl (.list sz 0 f) := fun w ok mu T z v hv => by
  obtain ⟨a, rfl⟩ := rv_zsl hv
  exact .list _ a 0 sz 0 f (fun _ _ => undef) (Nat.le_refl _) (by unfold maxLen; omega) hs (fun h => absurd h (Nat.lt_irrefl _)) (fun i h => absurd h (Nat.not_lt_zero _)) (fun i _ h => absurd h (Nat.not_lt_zero _)) fun i _ h => absurd h (Nat.not_lt_zero _)

/-! ### Values without references -/

def pureV : AV → Bool
  | .agg l => noRefs l
  | .tuple l => l.all fun x => match x with
    | .agg l => noRefs l
    | x => noRef x
  | x => noRef x

def pureL : List AV → Bool
  | [] => true
  | x :: r => pureV x && pureL r

theorem pureL_get : ∀ (l : List AV) (j : Nat), pureL l = true → pureV (lget l j) = true
  | [], _, _ => by unfold lget; rfl
  | x :: r, 0, h => by simp only [pureL, Bool.and_eq_true] at h; exact h.1
  | x :: r, j + 1, h => by simp only [pureL, Bool.and_eq_true] at h; exact pureL_get r j h.2

theorem lget_all {p : AV → Bool} : ∀ (l : List AV) (j : Nat), l.all p = true → j < l.length → p (lget l j) = true
  | [], _, _, h => by simp at h
  | x :: r, 0, h, _ => by simp only [List.all_cons, Bool.and_eq_true] at h; exact h.1
  | x :: r, j + 1, h, hj => by simp only [List.all_cons, Bool.and_eq_true] at h; exact lget_all r j h.2 (by simpa using hj)

section
variable {w : World} {ok : Nat → Prop} {mu : Nat → Option Nat} {T : Tab}

theorem RV.freeze_agg {z : Bool} {v : Value} {l : List AV} (h : RV w ok mu T z v (.agg l)) (hl : noRefs l = true) : RV w ok mu T true v (.agg l) := by
  obtain ⟨cs, rfl, hs, h1, hr⟩ := rv_agg h
  exact .agg _ _ _ hs h1 fun j hj => (hr j hj).freeze (noRefs_get _ _ hl)

theorem RV.pure {z : Bool} {v : Value} {x : AV} (h : RV w ok mu T z v x) (hx : pureV x = true) : RV w ok mu T true v x := by
  cases x with
  | agg l => exact h.freeze_agg hx
  | tuple l =>
    obtain ⟨cs, rfl, hs, hr⟩ := rv_tuple h
    refine .tuple _ _ _ hs fun j hj => ?_
    have := lget_all l j hx hj
    have hj' := hr j hj
    cases hk : lget l j with
    | agg l' => rw [hk] at this hj'; exact hj'.freeze_agg this
    | _ => rw [hk] at this hj'; exact hj'.freeze this
  | _ => exact h.freeze hx
end

/-! ### Contracts -/

def liveB (mu : Nat → Option Nat) (T : Tab) (b : Nat) : Prop := ∃ i, mu i = some b ∧ (tget T i).live

/-- Called with arguments that are known so, over such a table: it returns r and leaves T'. -/
structure AC (P : Program) (f : FuncId) (args : List AV) (T : Tab) (r : AV) (T' : Tab) : Prop where
  out : ∀ (w : World) (ok : Nat → Prop) (mu : Nat → Option Nat), Inv ⟨w, ok, liveB mu T, mu, T⟩ ok mu T w → ∀ vs : Array Value, vs.size = args.length →
    (∀ j, j < args.length → RV w ok mu T false (vs.getD j undef) (lget args j)) →
    Calls P f vs w fun e w' => ∃ v ok' mu', e = .returned v ∧ Go.Proofs.Ytbpcjahjbkiofaa.AV.Next ok ok' mu mu' T T' w w' ∧ RV w' ok' mu' T' false v r

/-- The invariant, told from here. -/
theorem Inv.base {G : Ctx} {w : World} {ok : Nat → Prop} {mu : Nat → Option Nat} {T : Tab} (I : Inv G ok mu T w) : Inv ⟨w, ok, liveB mu T, mu, T⟩ ok mu T w where
  os := rfl
  tape := rfl
  output := rfl
  size := Nat.le_refl _
  keep _ _ _ := rfl
  okB b h := ⟨(I.okB b h).1, .inl h⟩
  ok0 _ h := h
  sep := I.sep
  inj := I.inj
  lv i b h1 h2 := .inl ⟨i, h1, h2⟩
  obs := I.obs
  cmp := Compat.refl _ _ _

theorem AC.le {P : Program} {f : FuncId} {args : List AV} {T T' : Tab} {r r' : AV} (h : AC P f args T r T') (hr : Le r r') : AC P f args T r' T' :=
  ⟨fun w ok mu I vs h1 h2 => (h.out w ok mu I vs h1 h2).mono fun e w' ⟨v, ok', mu', he, N, hv⟩ => ⟨v, ok', mu', he, N, hr _ _ _ _ _ _ hv⟩⟩

theorem AC.le_args {P : Program} {f : FuncId} {args args' : List AV} {T T' : Tab} {r : AV} (h : AC P f args' T r T') (ha : LeL args args') : AC P f args T r T' :=
  ⟨fun w ok mu I vs h1 h2 => h.out w ok mu I vs (by rw [h1, ha.1]) fun j hj => ha.2 j (by rw [ha.1]; exact hj) _ _ _ _ _ _ (h2 j (by rw [ha.1]; exact hj))⟩

theorem tget_nil_live {i : Nat} : ¬ (tget [] i).live := by rw [tget_nil]; exact fun h => h

/-- An empty table, at a smaller class of what may be read. -/
theorem Inv.empty {w : World} {ok : Nat → Prop} (mu : Nat → Option Nat) (h : ∀ b, ok b → b < w.heap.size) : Inv ⟨w, ok, liveB mu [], mu, []⟩ ok mu [] w where
  os := rfl
  tape := rfl
  output := rfl
  size := Nat.le_refl _
  keep _ _ _ := rfl
  okB b hb := ⟨h b hb, .inl hb⟩
  ok0 _ h := h
  sep i b _ hl := absurd hl tget_nil_live
  inj i j b _ _ hl := absurd hl tget_nil_live
  lv i b _ hl := absurd hl tget_nil_live
  obs i := by rw [tget_nil]; trivial
  cmp := Compat.refl _ _ _

/-- A contract over no table serves over every one. -/
theorem AC.lift {P : Program} {f : FuncId} {args : List AV} {r : AV} (h : AC P f args [] r []) (ha : pureL args = true) (hr : pureV r = true) (T : Tab) : AC P f args T r T := by
  refine ⟨fun w ok mu I vs h1 h2 => ?_⟩
  refine (h.out w ok mu (Inv.empty mu fun b hb => (I.okB b hb).1) vs h1 fun j hj => ?_).mono ?_
  · exact ((h2 j hj).pure (pureL_get _ _ ha)).thaw.mono (z := true) (fun b hb => ⟨hb, rfl⟩) (fun e => by cases e) |>.thaw
  · rintro e w' ⟨v, ok', mu', he, N, hv⟩
    have hkeep : ∀ b, b < w.heap.size → w'.heap[b]? = w.heap[b]? := fun b hb => N.keep b hb fun i _ => tget_nil_live
    have hlv : ∀ i b, mu i = some b → (tget T i).live → b < w.heap.size := I.mu_lt
    have hC : Compat w w' mu mu T T := fun id hid => ⟨hid, fun cells e => ⟨⟨cells, e⟩, rfl⟩, fun sz n cv f e => ⟨n, cv, f, e, Nat.le_refl _, fun _ => ⟨Nat.le_refl _, rfl, fun b hb => by
      unfold capOf; rw [hkeep b (hlv id b hb (by rw [e]; trivial))]⟩⟩⟩
    have hw : ∀ b, ok b → ok' b ∧ w'.heap[b]? = w.heap[b]? := fun b hb => ⟨N.okL b hb, hkeep b (I.okB b hb).1⟩
    refine ⟨v, ok', mu, he, ⟨N.os, N.tape, N.output, N.size, fun b hb _ => hkeep b hb, hC, N.okL, fun b hb => ?_, fun i b hi hl => ⟨fun hb => ?_, .inl ⟨i, hi, hl⟩⟩, I.inj, fun i => ?_⟩, ?_⟩
    · obtain ⟨q1, q2⟩ := N.okR b hb
      refine ⟨q1, ?_⟩
      rcases q2 with q | ⟨i, _, q⟩ | q
      · exact .inl q
      · exact absurd q tget_nil_live
      · exact .inr (.inr q)
    · rcases (N.okR b hb).2 with q | ⟨j, _, q⟩ | q
      · exact I.sep i b hi hl q
      · exact absurd q tget_nil_live
      · have := hlv i b hi hl; omega
    · exact (I.obs i).mono hw hC rfl fun b hb hl => hkeep b (hlv i b hb hl)
    · exact ((hv.pure hr).mono (fun b hb => ⟨hb, rfl⟩) (fun e => by cases e)).thaw

section
variable {P : Program} {nt : Nat} {env : Env} {T : Tab}

theorem map_no {α β : Type} {x : Option α} {g : α → β} {y : β} (h : x.map g = some y) (hn : ∀ z, g z ≠ y) : False := by
  obtain ⟨z, _, e⟩ := Option.map_eq_some_iff.1 h
  exact hn z e

theorem cBin_no {op : BinOp} {t : TypeId} {x y : Operand} {p : AOp} (h : cBin P op t x y = some p) (h1 : ∀ f L, p ≠ .call f L) (h2 : ∀ f L, p ≠ .callv f L) : True := trivial

theorem cOp_isCall {o : Oper} {p : AOp} (h : cOp P o = some p) (hp : (∃ f L, p = .call f L) ∨ ∃ g L, p = .callv g L) : ∃ c, o.op = .call c ∧ cCall P c o.type = some p := by
  unfold cOp at h
  split at h
  all_goals try (rename_i c hop; exact ⟨c, hop, h⟩)
  all_goals exfalso
  all_goals (rcases hp with ⟨f, L, rfl⟩ | ⟨f, L, rfl⟩)
  all_goals first
    | exact map_no h (fun z e => by cases e)
    | (unfold cBin at h; (repeat' split at h) <;> cases h; done)
    | ((repeat' split at h) <;> cases h; done)
    | cases h

theorem cOp_call {o : Oper} {f : FuncId} {L : List Opd} (h : cOp P o = some (.call f L)) : ∃ c, o.op = .call c ∧ c.callee = .value (.func f) ∧ opds c.args.toList = some L ∧ ∃ fn, P.funcs[f]? = some fn ∧ fn.body.isSome = true ∧ fn.name ≠ "runtime.NumGoroutine" := by
  obtain ⟨c, hop, h⟩ := cOp_isCall h (.inl ⟨f, L, rfl⟩)
  unfold cCall at h
  split at h
  · rename_i f' hf
    split at h
    · rename_i l fn hl hfn
      split at h
      · rename_i hc
        cases h
        simp only [Bool.and_eq_true, bne_iff_ne, ne_eq] at hc
        exact ⟨c, hop, hf, hl, fn, hfn, hc.1, hc.2⟩
      · (repeat' split at h) <;> cases h
    · cases h
  all_goals (repeat' split at h) <;> cases h

theorem cOp_callv {o : Oper} {g : Opd} {L : List Opd} (h : cOp P o = some (.callv g L)) : ∃ c q, o.op = .call c ∧ c.callee = .value (.tmp q) ∧ g = .t q ∧ opds c.args.toList = some L := by
  obtain ⟨c, hop, h⟩ := cOp_isCall h (.inr ⟨g, L, rfl⟩)
  unfold cCall at h
  split at h
  case h_2 q hq =>
    split at h
    · rename_i l hl
      cases h
      exact ⟨c, q, hop, hq, rfl, hl⟩
    · cases h
  all_goals (repeat' split at h) <;> cases h

theorem run_callFunc {w : World} {f : FuncId} {fn : Func} (h1 : P.funcs[f]? = some fn) (h2 : fn.body.isSome = true) (h3 : fn.name ≠ "runtime.NumGoroutine") (args : Array Value) : (callFunc f args).run P w = .ok (.enter f args) w := by
  have h4 : fn.body.isNone = false := by cases hb : fn.body <;> simp_all
  have h5 : (fn.name == "runtime.NumGoroutine") = false := beq_eq_false_iff_ne.2 h3
  simp only [callFunc, Sem.run_bind, run_program, Result.andThen_ok, h1, h5, h4, Bool.false_eq_true, if_false]
  rfl

theorem SO.call {o : AOper} {r : List AOper} {K : Env → Tab → Prop} {f : FuncId} {L : List Opd} {rv : AV} {T' : Tab} (ho : o.op = .call f L) (hw : wantB o.guard env = some true)
    (hc : AC P f (vals env L) T rv T') (h : SO P nt r (bindE env o.dst rv) T' K) : SO P nt (o :: r) env T K := by
  refine ⟨fun mo i hcc G a w R Qm hq => ?_⟩
  obtain ⟨m, hm, hi, hco, hcr⟩ := drop_cons hcc
  rw [range_drop _ _ hi]
  obtain ⟨h1, h2, h3, _⟩ := cOper_spec hco
  simp only [wpOps, hm, wanted_of R hco hw, if_true]
  obtain ⟨hdef, hs, ok, mu, I, E⟩ := R
  rw [ho] at h1
  obtain ⟨c, hop, hcal, hargs, fn, hfn, hb, hn⟩ := cOp_call h1
  obtain ⟨a1, a2⟩ := args_rv E hargs
  left
  unfold Oper.wp
  have hrun : (execOp a.eval m).run P w = .ok (.enter f (c.args.map a.eval)) w := by
    have := run_callFunc (P := P) (w := w) hfn hb hn (c.args.map a.eval)
    simp [execOp, hop, resolve, hcal, Act.eval, Deferred.ofValue, invoke, this]
  rw [hrun, Oper.upon_enter]
  refine (hc.out w ok mu I.base (c.args.map a.eval) a1 a2).mono ?_
  rintro e w' ⟨v, ok', mu', rfl, N, hv⟩
  have R' := Rel.put hdef hs I E N hv h3
  have := h.out mo (i + 1) hcr G _ _ R' Qm hq
  simp only [h2]
  exact this

/-- A call of a function value. -/
theorem SO.callv {o : AOper} {r : List AOper} {K : Env → Tab → Prop} {g : Opd} {f : FuncId} {cap : List AV} {L : List Opd} {rv : AV} {T' : Tab} (ho : o.op = .callv g L) (hw : wantB o.guard env = some true) (hg : oval env g = .func f cap)
    (hfn : ∃ fn, P.funcs[f]? = some fn ∧ fn.body.isSome = true ∧ fn.name ≠ "runtime.NumGoroutine")
    (hc : AC P f (vals env L ++ cap) T rv T') (h : SO P nt r (bindE env o.dst rv) T' K) : SO P nt (o :: r) env T K := by
  refine ⟨fun mo i hcc G a w R Qm hq => ?_⟩
  obtain ⟨m, hm, hi, hco, hcr⟩ := drop_cons hcc
  rw [range_drop _ _ hi]
  obtain ⟨h1, h2, h3, _⟩ := cOper_spec hco
  simp only [wpOps, hm, wanted_of R hco hw, if_true]
  obtain ⟨hdef, hs, ok, mu, I, E⟩ := R
  rw [ho] at h1
  obtain ⟨c, q, hop, hcal, rfl, hargs⟩ := cOp_callv h1
  obtain ⟨fn, hfn, hb, hn⟩ := hfn
  obtain ⟨a1, a2⟩ := args_rv E hargs
  have hgv : RV w ok mu T false (a.eval (.tmp q)) (.func f cap) := by
    have := opd_rv E (x := .tmp q) (X := .t q) rfl
    rwa [hg] at this
  obtain ⟨cs, hval, c1, c2⟩ := rv_func hgv
  left
  unfold Oper.wp
  have hrun : (execOp a.eval m).run P w = .ok (.enter f (c.args.map a.eval ++ cs)) w := by
    have := run_callFunc (P := P) (w := w) hfn hb hn (c.args.map a.eval ++ cs)
    simp [execOp, hop, resolve, hcal, hval, Deferred.ofValue, invoke, this]
  rw [hrun, Oper.upon_enter]
  refine (hc.out w ok mu I.base (c.args.map a.eval ++ cs) (by simp only [Array.size_append, List.length_append, a1, c1]) fun j hj => ?_).mono ?_
  · rw [List.length_append] at hj
    have lapp : ∀ (l m : List AV) (j : Nat), lget (l ++ m) j = if j < l.length then lget l j else lget m (j - l.length) := by
      intro l
      induction l with
      | nil => intro m j; simp
      | cons x r ih =>
        intro m j
        cases j with
        | zero => simp [lget]
        | succ j =>
          show lget (r ++ m) j = _
          rw [ih m j]
          simp only [List.length_cons, Nat.add_lt_add_iff_right, Nat.add_sub_add_right]
          rfl
    rw [lapp]
    split
    · rename_i hlt
      have e : (c.args.map a.eval ++ cs).getD j undef = (c.args.map a.eval).getD j undef := by
        rw [Array.getD_eq_getD_getElem?, Array.getElem?_append, if_pos (by omega), ← Array.getD_eq_getD_getElem?]
      rw [e]
      exact a2 j hlt
    · rename_i hge
      have e : (c.args.map a.eval ++ cs).getD j undef = cs.getD (j - (vals env L).length) undef := by
        rw [Array.getD_eq_getD_getElem?, Array.getElem?_append, if_neg (by omega), a1, ← Array.getD_eq_getD_getElem?]
      rw [e]
      exact c2 _ (by omega)
  rintro e w' ⟨v, ok', mu', rfl, N, hv⟩
  have R' := Rel.put hdef hs I E N hv h3
  have := h.out mo (i + 1) hcr G _ _ R' Qm hq
  simp only [h2]
  exact this

end
end Go.Proofs.Ytbpcjahjbkiofaa.AV

set_option linter.unusedVariables false
set_option linter.unusedSimpArgs false
namespace Go.Proofs.Ytbpcjahjbkiofaa.AV
open Go

/-! ### One operation -/
structure Step1 (P : Program) (nt : Nat) (o : AOper) (env : Env) (T : Tab) (v : AV) (T' : Tab) : Prop where
  out : ∀ (mo : Array Oper) (i : Nat) (m : Oper), mo[i]? = some m → cOper P nt mo m = some o → ∀ G a w, Rel G nt env T a w → ∀ (K : Act → World → Prop) (Qm : Exit → Act → World → Prop),
    (∀ a' w', Rel G nt (bindE env o.dst v) T' a' w' → K a' w') → wpOp P mo Qm i K a w

section
variable {P : Program} {nt : Nat} {env : Env} {T : Tab}

theorem Step1.does {o : AOper} {v : AV} {T' : Tab} (hw : wantB o.guard env = some true) (hv : Does P o.op env T v T') : Step1 P nt o env T v T' := by
  refine ⟨fun mo i m hm hco G a w R K Qm hq => ?_⟩
  obtain ⟨h1, h2, h3, _⟩ := cOper_spec hco
  simp only [wpOp, hm, wanted_of R hco hw, if_true]
  obtain ⟨hdef, hs, ok, mu, I, E⟩ := R
  obtain ⟨nx, x, w', ok', mu', hrun, hnx, N, hx⟩ := hv.out h1 I E
  left
  unfold Oper.wp
  rw [hrun]
  have R' := Rel.put hdef hs I E N hx h3
  rcases hnx with rfl | ⟨rfl, rfl⟩
  · simp only [Oper.upon, h2]; exact hq _ _ R'
  · simp only [Oper.upon, h2]; exact hq _ _ R'

theorem Step1.skip {o : AOper} (hw : wantB o.guard env = some false) : Step1 P nt o env T .top T := by
  refine ⟨fun mo i m hm hco G a w R K Qm hq => ?_⟩
  obtain ⟨h1, h2, h3, _⟩ := cOper_spec hco
  simp only [wpOp, hm, wanted_of R hco hw, Bool.false_eq_true, if_false]
  rw [h2]
  exact hq _ _ (R.put_top (x := undef) h3)

theorem Step1.call {o : AOper} {f : FuncId} {L : List Opd} {rv : AV} {T' : Tab} (ho : o.op = .call f L) (hw : wantB o.guard env = some true)
    (hc : AC P f (vals env L) T rv T') : Step1 P nt o env T rv T' := by
  refine ⟨fun mo i m hm hco G a w R K Qm hq => ?_⟩
  obtain ⟨h1, h2, h3, _⟩ := cOper_spec hco
  simp only [wpOp, hm, wanted_of R hco hw, if_true]
  obtain ⟨hdef, hs, ok, mu, I, E⟩ := R
  rw [ho] at h1
  obtain ⟨c, hop, hcal, hargs, fn, hfn, hb, hn⟩ := cOp_call h1
  obtain ⟨a1, a2⟩ := args_rv E hargs
  left
  unfold Oper.wp
  have hrun : (execOp a.eval m).run P w = .ok (.enter f (c.args.map a.eval)) w := by
    have := run_callFunc (P := P) (w := w) hfn hb hn (c.args.map a.eval)
    simp [execOp, hop, resolve, hcal, Act.eval, Deferred.ofValue, invoke, this]
  rw [hrun, Oper.upon_enter]
  refine (hc.out w ok mu I.base (c.args.map a.eval) a1 a2).mono ?_
  rintro e w' ⟨v, ok', mu', rfl, N, hv⟩
  have R' := Rel.put hdef hs I E N hv h3
  simp only [h2]
  exact hq _ _ R'

/-! ### Facts -/
structure Fact where
  rd : List (Nat × AV)
  fp : List (Nat × Ob)
  v : AV
  u : Option (Nat × Ob)

def AgE (env : Env) (rd : List (Nat × AV)) : Prop := ∀ p ∈ rd, eget env p.1 = p.2
def AgT (T : Tab) (fp : List (Nat × Ob)) : Prop := ∀ p ∈ fp, tget T p.1 = p.2

structure Stable (P : Program) (nt : Nat) (o : AOper) (f : Fact) : Prop where
  out : ∀ env T, AgE env f.rd → AgT T f.fp → Step1 P nt o env T f.v (tupd T f.u)

/-- The shape of a fact. -/
structure HF where
  dst : Option Nat
  rd : List Nat
  fp : List Nat
  u : Option Nat

def fsts {α : Type} : List (Nat × α) → List Nat
  | [] => []
  | (i, _) :: r => i :: fsts r
def ufst : Option (Nat × Ob) → Option Nat
  | none => none
  | some (i, _) => some i

def sh (o : AOper) (f : Fact) : HF := ⟨o.dst, fsts f.rd, fsts f.fp, ufst f.u⟩

def notIn (x : Option Nat) (l : List Nat) : Bool := match x with
  | none => true
  | some n => match l with
    | [] => true
    | m :: r => !Nat.beq n m && notIn (some n) r

def optNe (x y : Option Nat) : Bool := match x with
  | none => true
  | some a => match y with
    | none => true
    | some b => !Nat.beq a b

def apartH (x y : HF) : Bool := notIn x.dst y.rd && (notIn y.dst x.rd && (optNe x.dst y.dst && (notIn x.u y.fp && (notIn y.u x.fp && optNe x.u y.u))))

theorem notIn_spec {n : Nat} : ∀ {l : List Nat}, notIn (some n) l = true → n ∉ l
  | [], _ => by simp
  | m :: r, h => by
    simp only [notIn, Bool.and_eq_true, Bool.not_eq_true'] at h
    rw [List.mem_cons]
    rintro (e | e)
    · subst e; simp at h
    · exact notIn_spec h.2 e

theorem fsts_mem {α : Type} : ∀ {l : List (Nat × α)} {p : Nat × α}, p ∈ l → p.1 ∈ fsts l
  | [], _, h => by simp at h
  | (i, x) :: r, p, h => by
    rw [List.mem_cons] at h
    show p.1 ∈ i :: fsts r
    rcases h with rfl | h
    · simp
    · exact List.mem_cons_of_mem _ (fsts_mem h)

def ExtE (e e' : Env) : Prop := ∀ i, eget e i = eget e' i
def ExtT (t t' : Tab) : Prop := ∀ i, tget t i = tget t' i

theorem eget_bindE (env : Env) (d : Option Nat) (v : AV) (i : Nat) : eget (bindE env d v) i = if d = some i then v else eget env i := by
  cases d with
  | none => simp [bindE]
  | some n =>
    show eget ((n, v) :: env) i = _
    rw [eget_cons]
    by_cases h : i = n
    · subst h; simp
    · rw [if_neg h, if_neg (by simp; omega)]

theorem tget_tupd (T : Tab) (u : Option (Nat × Ob)) (i : Nat) : tget (tupd T u) i = match u with | none => tget T i | some (n, o) => if i = n then o else tget T i := by
  cases u with
  | none => rfl
  | some p => exact tget_tset T p.1 i p.2

theorem AgE.bind {env : Env} {rd : List (Nat × AV)} (d : Option Nat) (v : AV) (h : notIn d (fsts rd) = true) : AgE (bindE env d v) rd ↔ AgE env rd := by
  have : ∀ p ∈ rd, eget (bindE env d v) p.1 = eget env p.1 := fun p hp => by
    rw [eget_bindE, if_neg]
    intro e
    rw [e] at h
    exact notIn_spec h (fsts_mem hp)
  exact ⟨fun H p hp => (this p hp) ▸ H p hp, fun H p hp => (this p hp).trans (H p hp)⟩

theorem AgT.upd {T : Tab} {fp : List (Nat × Ob)} (u : Option (Nat × Ob)) (h : notIn (ufst u) (fsts fp) = true) : AgT (tupd T u) fp ↔ AgT T fp := by
  have : ∀ p ∈ fp, tget (tupd T u) p.1 = tget T p.1 := fun p hp => by
    rw [tget_tupd]
    cases u with
    | none => rfl
    | some q =>
      obtain ⟨n, o⟩ := q
      show (if _ then _ else _) = _
      rw [if_neg]
      intro e
      have := fsts_mem hp
      rw [e] at this
      exact notIn_spec (n := n) h this
  exact ⟨fun H p hp => (this p hp) ▸ H p hp, fun H p hp => (this p hp).trans (H p hp)⟩

theorem ExtE.bind {e e' : Env} (h : ExtE e e') (d : Option Nat) (v : AV) : ExtE (bindE e d v) (bindE e' d v) := fun i => by
  rw [eget_bindE, eget_bindE, h i]
theorem ExtT.upd {e e' : Tab} (h : ExtT e e') (u : Option (Nat × Ob)) : ExtT (tupd e u) (tupd e' u) := fun i => by
  rw [tget_tupd, tget_tupd]
  cases u with
  | none => exact h i
  | some p => show (if _ then _ else _) = (if _ then _ else _); rw [h i]

theorem ExtE.swap (e : Env) (d d' : Option Nat) (v v' : AV) (h : optNe d d' = true) : ExtE (bindE (bindE e d v) d' v') (bindE (bindE e d' v') d v) := fun i => by
  rw [eget_bindE, eget_bindE, eget_bindE, eget_bindE]
  by_cases h1 : d' = some i
  · rw [if_pos h1, if_neg, if_pos h1]
    intro h2
    rw [h1, h2] at h
    simp [optNe] at h
  · rw [if_neg h1, if_neg h1]

theorem ExtT.swap (t : Tab) (u u' : Option (Nat × Ob)) (h : optNe (ufst u) (ufst u') = true) : ExtT (tupd (tupd t u) u') (tupd (tupd t u') u) := fun i => by
  cases u with
  | none => rfl
  | some p =>
    cases u' with
    | none => rfl
    | some q =>
      have hne : p.1 ≠ q.1 := fun e => by
        have h' : (!Nat.beq p.1 q.1) = true := h
        rw [e] at h'
        simp at h'
      show tget (tset (tset t p.1 p.2) q.1 q.2) i = tget (tset (tset t q.1 q.2) p.1 p.2) i
      rw [tget_tset, tget_tset, tget_tset, tget_tset]
      by_cases h1 : i = q.1
      · rw [if_pos h1, if_neg (by omega), if_pos h1]
      · rw [if_neg h1, if_neg h1]

/-- The state sees the table and the slots only so. -/
theorem Rel.ext {G : Ctx} {env' : Env} {T' : Tab} {a : Act} {w : World} (R : Rel G nt env T a w) (he : ExtE env env') (ht : ExtT T T') : Rel G nt env' T' a w := by
  obtain ⟨h1, h2, ok, mu, I, E⟩ := R
  have hC : Compat w w mu mu T T' := fun id h => by
    rw [← ht id]
    exact ⟨h, fun cells e => ⟨⟨cells, e⟩, rfl⟩, fun sz n cv f e => ⟨n, cv, f, e, Nat.le_refl _, fun _ => ⟨Nat.le_refl _, rfl, fun _ _ => rfl⟩⟩⟩
  have hw : ∀ b, ok b → ok b ∧ w.heap[b]? = w.heap[b]? := fun b h => ⟨h, rfl⟩
  have N : Go.Proofs.Ytbpcjahjbkiofaa.AV.Next ok ok mu mu T T' w w := by
    refine ⟨rfl, rfl, rfl, Nat.le_refl _, fun _ _ _ => rfl, hC, fun _ h => h, fun b h => ⟨(I.okB b h).1, .inl h⟩, fun i b hi hl => ?_, fun i j b hi hj hli hlj => ?_, fun i => ?_⟩
    · rw [← ht i] at hl
      exact ⟨I.sep i b hi hl, .inl ⟨i, hi, hl⟩⟩
    · rw [← ht i] at hli
      rw [← ht j] at hlj
      exact I.inj i j b hi hj hli hlj
    · rw [← ht i]
      exact (I.obs i).mono hw hC rfl fun _ _ _ => rfl
  exact ⟨h1, h2, ok, mu, I.next N, fun i => by rw [← he i]; exact N.rv I (E i)⟩

/-! ### Plans -/
structure It where
  k : Nat
  b : Nat
  o : AOper
  f : Fact

def Chain : List It → Env → Tab → Env → Tab → Prop
  | [], e, t, E, F => ExtE e E ∧ ExtT t F
  | x :: r, e, t, E, F => AgE e x.f.rd ∧ AgT t x.f.fp ∧ Chain r (bindE e x.o.dst x.f.v) (tupd t x.f.u) E F

theorem Chain.ext : ∀ (l : List It) {e e' : Env} {t t' : Tab} {E : Env} {F : Tab}, Chain l e t E F → ExtE e e' → ExtT t t' → Chain l e' t' E F
  | [], e, e', t, t', E, F, h, he, ht => ⟨fun i => (he i).symm.trans (h.1 i), fun i => (ht i).symm.trans (h.2 i)⟩
  | x :: r, e, e', t, t', E, F, h, he, ht =>
    ⟨fun p hp => (he p.1) ▸ h.1 p hp, fun p hp => (ht p.1) ▸ h.2.1 p hp, Chain.ext r h.2.2 (he.bind _ _) (ht.upd _)⟩

theorem Chain.front : ∀ (l1 : List It) {y : It} {l2 : List It} {e : Env} {t : Tab} {E : Env} {F : Tab}, Chain (l1 ++ y :: l2) e t E F → (∀ x ∈ l1, apartH (sh x.o x.f) (sh y.o y.f) = true) →
    AgE e y.f.rd ∧ AgT t y.f.fp ∧ Chain (l1 ++ l2) (bindE e y.o.dst y.f.v) (tupd t y.f.u) E F
  | [], y, l2, e, t, E, F, h, _ => h
  | x :: l1, y, l2, e, t, E, F, h, ha => by
    obtain ⟨h1, h2, h3⟩ := h
    obtain ⟨g1, g2, g3⟩ := Chain.front l1 h3 fun z hz => ha z (List.mem_cons_of_mem _ hz)
    have hxy := ha x (by simp)
    simp only [apartH, sh, Bool.and_eq_true] at hxy
    obtain ⟨q1, q2, q3, q4, q5, q6⟩ := hxy
    refine ⟨(AgE.bind _ _ q1).1 g1, (AgT.upd _ q4).1 g2, (AgE.bind _ _ q2).2 h1, (AgT.upd _ q5).2 h2, ?_⟩
    exact Chain.ext _ g3 (ExtE.swap _ _ _ _ _ q3) (ExtT.swap _ _ _ q6)

/-! ### What must stand before -/
theorem mask1_spec : ∀ (es : List Edge) {acc : List Nat} {m : Nat}, mask1 acc es = some m →
    (∀ e ∈ es, Region.binds .any e = true → e.on < acc.length) ∧ ∀ j, m.testBit j = true → ∃ e ∈ es, Region.binds .any e = true ∧ (j = e.on ∨ (nthN acc e.on).testBit j = true)
  | [], acc, m, h => by
    simp only [mask1, Option.some.injEq] at h
    subst h
    exact ⟨fun e he => by simp at he, fun j hj => by simp at hj⟩
  | e :: r, acc, m, h => by
    simp only [mask1] at h
    split at h
    · cases h
    · rename_i m' hm'
      obtain ⟨g1, g2⟩ := mask1_spec r hm'
      split at h
      · rename_i hb
        cases h
        refine ⟨fun e' he' hb' => ?_, fun j hj => ?_⟩
        · rcases List.mem_cons.1 he' with rfl | he'
          · rw [hb] at hb'; cases hb'
          · exact g1 e' he' hb'
        · obtain ⟨e', h1, h2⟩ := g2 j hj
          exact ⟨e', List.mem_cons_of_mem _ h1, h2⟩
      · rename_i hb
        split at h
        · rename_i hlt
          cases h
          rw [Nat.blt_eq] at hlt
          refine ⟨fun e' he' hb' => ?_, fun j hj => ?_⟩
          · rcases List.mem_cons.1 he' with rfl | he'
            · exact hlt
            · exact g1 e' he' hb'
          · have hj' : ((m' ||| 2 ^ e.on) ||| nthN acc e.on).testBit j = true := hj
            rw [Nat.testBit_or, Nat.testBit_or, Bool.or_eq_true, Bool.or_eq_true] at hj'
            rcases hj' with (h1 | h1) | h1
            · obtain ⟨e', h1, h2⟩ := g2 j h1
              exact ⟨e', List.mem_cons_of_mem _ h1, h2⟩
            · rw [Nat.testBit_two_pow] at h1
              exact ⟨e, by simp, hb, .inl (by simpa using (of_decide_eq_true h1).symm)⟩
            · exact ⟨e, by simp, hb, .inr h1⟩
        · cases h

theorem nthN_get : ∀ (l : List Nat) (i : Nat), nthN l i = (l[i]?).getD 0
  | [], i => by unfold nthN; simp
  | x :: r, 0 => rfl
  | x :: r, i + 1 => by show nthN r i = _; rw [nthN_get r i]; simp

theorem masks_spec : ∀ (ops : List Oper) {acc bm : List Nat}, masks acc ops = some bm → ∃ t, bm = acc ++ t ∧ t.length = ops.length ∧
    ∀ (k : Nat) (o : Oper), ops[k]? = some o → ∃ b, bm[acc.length + k]? = some b ∧ mask1 (bm.take (acc.length + k)) o.after.toList = some b
  | [], acc, bm, h => by
    simp only [masks, Option.some.injEq] at h
    subst h
    exact ⟨[], by simp, rfl, fun k o h => by simp at h⟩
  | x :: r, acc, bm, h => by
    simp only [masks] at h
    split at h
    · rename_i m hm
      rw [CheckFast.force_eq] at h
      obtain ⟨t, e1, e2, e3⟩ := masks_spec r h
      refine ⟨m :: t, by rw [e1]; simp, by simp [e2], fun k o hk => ?_⟩
      cases k with
      | zero =>
        simp only [List.getElem?_cons_zero, Option.some.injEq] at hk
        subst hk
        refine ⟨m, ?_, ?_⟩
        · rw [e1]; simp
        · rw [e1]; simpa using hm
      | succ k =>
        simp only [List.getElem?_cons_succ] at hk
        obtain ⟨b, h1, h2⟩ := e3 k o hk
        have : (acc ++ [m]).length + k = acc.length + (k + 1) := by simp; omega
        rw [this] at h1 h2
        exact ⟨b, h1, h2⟩
    · cases h

def bitB (b j : Nat) : Bool := Nat.beq (Nat.land 1 (Nat.shiftRight b j)) 1

theorem bitB_eq (b j : Nat) : bitB b j = b.testBit j := by
  unfold bitB Nat.testBit
  show Nat.beq (1 &&& (b >>> j)) 1 = (1 &&& b >>> j != 0)
  have : (1 &&& b >>> j) = (b >>> j) % 2 := Nat.one_and_eq_mod_two _
  rw [this]
  rcases Nat.mod_two_eq_zero_or_one (b >>> j) with h | h <;> rw [h] <;> rfl

/-! ### The rest of a region, in the text's order -/
def chkH (b j : Nat) (h : List HF) (x : HF) : Bool := match h with
  | [] => true
  | y :: r => (match bitB b j with | true => true | false => apartH y x) && chkH b (j + 1) r x

inductive PlanFrom (P : Program) (nt : Nat) : List AOper → List Nat → List HF → Env → Tab → Env → Tab → Prop
  | nil (h : List HF) (env : Env) (T : Tab) : PlanFrom P nt [] [] h env T env T
  | cons {o : AOper} {r : List AOper} {b : Nat} {bm : List Nat} {h : List HF} {env : Env} {T : Tab} {E : Env} {F : Tab} (f : Fact) (hs : Stable P nt o f) (h1 : AgE env f.rd) (h2 : AgT T f.fp)
      (hc : chkH b 0 h (sh o f) = true) (k : PlanFrom P nt r bm (h ++ [sh o f]) (bindE env o.dst f.v) (tupd T f.u) E F) : PlanFrom P nt (o :: r) (b :: bm) h env T E F

theorem chkH_spec : ∀ (h : List HF) {b j : Nat} {x : HF}, chkH b j h x = true → ∀ (i : Nat) (y : HF), h[i]? = some y → b.testBit (j + i) = true ∨ apartH y x = true
  | [], b, j, x, _, i, y, hi => by simp at hi
  | z :: r, b, j, x, h, i, y, hi => by
    simp only [chkH, Bool.and_eq_true] at h
    cases i with
    | zero =>
      simp only [List.getElem?_cons_zero, Option.some.injEq] at hi
      subst hi
      have := h.1
      split at this
      · rename_i hb; rw [bitB_eq] at hb; exact .inl hb
      · exact .inr this
    | succ i =>
      simp only [List.getElem?_cons_succ] at hi
      have := chkH_spec r h.2 i y hi
      rw [show j + 1 + i = j + (i + 1) by omega] at this
      exact this

def Ord (x y : It) : Prop := x.k < y.k ∧ (y.b.testBit x.k = true ∨ apartH (sh x.o x.f) (sh y.o y.f) = true)

theorem PlanFrom.items {l : List AOper} {bm : List Nat} {h : List HF} {env : Env} {T : Tab} {E : Env} {F : Tab} (p : PlanFrom P nt l bm h env T E F) :
    ∃ pl : List It, pl.length = l.length ∧ (∀ (i : Nat) (x : It), pl[i]? = some x → x.k = h.length + i ∧ l[i]? = some x.o ∧ bm[i]? = some x.b ∧ Stable P nt x.o x.f ∧ ∀ (j : Nat) (y : HF), h[j]? = some y → x.b.testBit j = true ∨ apartH y (sh x.o x.f) = true) ∧
      pl.Pairwise Ord ∧ Chain pl env T E F := by
  induction p with
  | nil => exact ⟨[], rfl, fun i x h => by simp at h, .nil, fun _ => rfl, fun _ => rfl⟩
  | @cons o r b bm h env T E F f hs h1 h2 hc k ih =>
    obtain ⟨pl, e1, e2, e3, e4⟩ := ih
    refine ⟨⟨h.length, b, o, f⟩ :: pl, by simp [e1], fun i x hx => ?_, List.pairwise_cons.2 ⟨fun y hy => ?_, e3⟩, h1, h2, e4⟩
    · cases i with
      | zero =>
        simp only [List.getElem?_cons_zero, Option.some.injEq] at hx
        subst hx
        exact ⟨rfl, rfl, rfl, hs, fun j y hj => by have := chkH_spec h hc j y hj; rwa [Nat.zero_add] at this⟩
      | succ i =>
        simp only [List.getElem?_cons_succ] at hx
        obtain ⟨q1, q2, q3, q4, q5⟩ := e2 i x hx
        refine ⟨by rw [q1]; simp; omega, by simpa using q2, by simpa using q3, q4, fun j y hj => q5 j y ?_⟩
        rw [List.getElem?_append_left (List.getElem?_eq_some_iff.1 hj).1]
        exact hj
    · obtain ⟨i, hi, rfl⟩ := List.mem_iff_getElem.1 hy
      obtain ⟨q1, _, _, _, q5⟩ := e2 i _ (List.getElem?_eq_getElem hi)
      refine ⟨?_, ?_⟩
      · show h.length < _
        rw [q1]; simp; omega
      · exact q5 h.length _ (by simp)

/-! ### Every order -/
theorem any_sound {mo : Array Oper} {G : Ctx} {Qm : Exit → Act → World → Prop} {E : Env} {F : Tab} {bm : List Nat} {pl : List It} (hbm : masks [] mo.toList = some bm) (hlen : pl.length = mo.size)
    (hpl : ∀ (i : Nat) (x : It), pl[i]? = some x → x.k = i ∧ bm[i]? = some x.b ∧ Stable P nt x.o x.f ∧ ∃ m, mo[i]? = some m ∧ cOper P nt mo m = some x.o)
    (hQ : ∀ a w, Rel G nt E F a w → Qm .normal a w) : ∀ (fuel : Nat) (listed : Array Bool) (pend : List It) (env : Env) (T : Tab) (a : Act) (w : World), listed.size = mo.size → pend.length = fuel →
      (∀ y ∈ pend, y ∈ pl ∧ listed.getD y.k true = false) → (∀ y ∈ pl, y ∈ pend ∨ listed.getD y.k false = true) → pend.Pairwise Ord → Chain pend env T E F → Rel G nt env T a w →
      (∀ y ∈ pl, listed.getD y.k false = true → ∀ j, y.b.testBit j = true → listed.getD j false = true) → wpAny P .any mo Qm fuel listed a w := by
  obtain ⟨tb, hb1, hb2, hb3⟩ := masks_spec _ hbm
  simp only [List.nil_append, List.length_nil, Nat.zero_add] at hb1 hb3
  subst hb1
  have hit : ∀ i, i < mo.size → ∃ x, pl[i]? = some x ∧ x ∈ pl ∧ x.k = i := fun i hi => by
    have : i < pl.length := by omega
    exact ⟨pl[i], List.getElem?_eq_getElem this, List.getElem_mem this, (hpl i _ (List.getElem?_eq_getElem this)).1⟩
  have hgetf : ∀ (listed : Array Bool) (i : Nat), listed.getD i false = true → listed.getD i true = true := fun listed i h => by
    rcases Nat.lt_or_ge i listed.size with h' | h'
    · simp [h'] at h ⊢; exact h
    · simp [Array.getElem?_eq_none h'] at h
  have hmask : ∀ (i : Nat) (y : It) (m : Oper), pl[i]? = some y → mo[i]? = some m → (∀ e ∈ m.after, Region.binds .any e = true → e.on < i) ∧ ∀ j, y.b.testBit j = true → ∃ e ∈ m.after, Region.binds .any e = true ∧ (j = e.on ∨ ∃ z, pl[e.on]? = some z ∧ z.b.testBit j = true) := by
    intro i y m hy hm
    obtain ⟨b, g1, g2⟩ := hb3 i m (by simpa using hm)
    obtain ⟨r1, r2⟩ := mask1_spec _ g2
    have hyb := (hpl i y hy).2.1
    rw [hyb] at g1
    cases g1
    have hi := (List.getElem?_eq_some_iff.1 hyb).1
    have hlt : ∀ e ∈ m.after, Region.binds .any e = true → e.on < i := fun e he hb => by
      have := r1 e (by simpa using he) hb
      simp at this; omega
    refine ⟨hlt, fun j hj => ?_⟩
    obtain ⟨e, he, hb, hor⟩ := r2 j hj
    have he' : e ∈ m.after := by simpa using he
    refine ⟨e, he', hb, hor.imp id fun h => ?_⟩
    have hon := hlt e he' hb
    obtain ⟨z, hz, _, _⟩ := hit e.on (by have := (Array.getElem?_eq_some_iff.1 hm).1; omega)
    refine ⟨z, hz, ?_⟩
    have hzb := (hpl _ z hz).2.1
    rw [nthN_get, List.getElem?_take, if_pos hon, hzb] at h
    exact h
  have hready : ∀ (listed : Array Bool) (i : Nat), i ∈ Region.ready .any mo listed → i < mo.size := fun listed i h => by
    obtain ⟨_, o, ho, _⟩ := mem_ready.1 h
    exact (Array.getElem?_eq_some_iff.1 ho).1
  have hnone : ∀ (listed : Array Bool) (pend : List It), (∀ y ∈ pend, y ∈ pl ∧ listed.getD y.k true = false) → (∀ y ∈ pl, y ∈ pend ∨ listed.getD y.k false = true) → pend.Pairwise Ord → Region.ready .any mo listed = [] → pend = [] := by
    intro listed pend h1 h2 h3 hr
    cases pend with
    | nil => rfl
    | cons y r =>
      exfalso
      obtain ⟨hy, hl⟩ := h1 y (by simp)
      obtain ⟨i, hi, rfl⟩ := List.mem_iff_getElem.1 hy
      have hyi := List.getElem?_eq_getElem hi
      obtain ⟨q1, _, _, m, q4, _⟩ := hpl i _ hyi
      have : i ∈ Region.ready .any mo listed := by
        rw [mem_ready]
        rw [q1] at hl
        refine ⟨hl, m, q4, fun e he hb => ?_⟩
        have hon := (hmask i _ m hyi q4).1 e he hb
        obtain ⟨z, hz, hzp, hzk⟩ := hit e.on (by omega)
        rcases h2 z hzp with g | g
        · exfalso
          rcases List.mem_cons.1 g with rfl | g
          · omega
          · have := ((List.pairwise_cons.1 h3).1 z g).1
            omega
        · rwa [hzk] at g
      rw [hr] at this
      cases this
  have hdone : ∀ (listed : Array Bool) (env : Env) (T : Tab) (a : Act) (w : World), Chain [] env T E F → Rel G nt env T a w → Qm .normal a w := fun _ env T a w hc R => hQ a w (R.ext hc.1 hc.2)
  intro fuel
  induction fuel with
  | zero =>
    intro listed pend env T a w hs hl h1 h2 h3 hc R hcl
    obtain rfl : pend = [] := List.length_eq_zero_iff.1 hl
    refine ⟨?_, hdone listed env T a w hc R⟩
    rw [List.eq_nil_iff_forall_not_mem]
    intro i hi
    obtain ⟨x, _, hx, hk⟩ := hit i (hready _ _ hi)
    rcases h2 x hx with g | g
    · simp at g
    · have := (mem_ready.1 hi).1
      rw [← hk, hgetf _ _ g] at this
      cases this
  | succ fuel ih =>
    intro listed pend env T a w hs hl h1 h2 h3 hc R hcl
    refine ⟨fun hr => ?_, fun i hi => ?_⟩
    · have := hnone listed pend h1 h2 h3 hr
      subst this
      exact hdone listed env T a w hc R
    · have hlt := hready _ _ hi
      obtain ⟨y, hyi, hyp, hyk⟩ := hit i hlt
      obtain ⟨hun, m, hm, haft⟩ := mem_ready.1 hi
      have hyin : y ∈ pend := by
        rcases h2 y hyp with g | g
        · exact g
        · rw [hyk] at g; rw [hgetf _ _ g] at hun; cases hun
      obtain ⟨_, _, hst, m', hm', hco⟩ := hpl i y hyi
      rw [hm] at hm'
      cases hm'
      obtain ⟨l1, l2, rfl⟩ := List.append_of_mem hyin
      have hbefore : ∀ j, y.b.testBit j = true → listed.getD j false = true := fun j hj => by
        obtain ⟨e, he, hb, hor⟩ := (hmask i y m hyi hm).2 j hj
        have hle := haft e he hb
        rcases hor with rfl | ⟨z, hz, hzb⟩
        · exact hle
        · have hzp : z ∈ pl := List.mem_of_getElem? hz
          exact hcl z hzp (by rw [(hpl _ z hz).1]; exact hle) j hzb
      have hap : ∀ x ∈ l1, apartH (sh x.o x.f) (sh y.o y.f) = true := fun x hx => by
        have := (List.pairwise_append.1 h3).2.2 x hx y (by simp)
        rcases this.2 with g | g
        · exfalso
          have g1 := hgetf _ _ (hbefore _ g)
          rw [(h1 x (by simp [hx])).2] at g1
          cases g1
        · exact g
      obtain ⟨c1, c2, c3⟩ := Chain.front l1 hc hap
      refine (hst.out env T c1 c2).out mo i m hm hco G a w R _ Qm fun a' w' R' => ?_
      have hsub : (l1 ++ l2).Sublist (l1 ++ y :: l2) := List.Sublist.append_left (List.sublist_cons_self y l2) l1
      have hne : ∀ x ∈ l1 ++ l2, x.k ≠ i := fun x hx => by
        rcases List.mem_append.1 hx with g | g
        · have := ((List.pairwise_append.1 h3).2.2 x g y (by simp)).1
          omega
        · have := ((List.pairwise_cons.1 (List.pairwise_append.1 h3).2.1).1 x g).1
          omega
      refine ih (listed.setIfInBounds i true) (l1 ++ l2) _ _ a' w' (by simp [hs]) ?_ (fun x hx => ?_) (fun x hx => ?_) (h3.sublist hsub) c3 R' (fun x hx hxl j hj => ?_)
      · simp at hl ⊢; omega
      · obtain ⟨g1, g2⟩ := h1 x (hsub.subset hx)
        exact ⟨g1, by rw [getD_set_ne _ (Ne.symm (hne x hx))]; exact g2⟩
      · rcases h2 x hx with g | g
        · by_cases hxi : x.k = i
          · right
            rw [hxi]
            simp [hs, hlt]
          · left
            rcases List.mem_append.1 g with g | g
            · exact List.mem_append.2 (.inl g)
            · rcases List.mem_cons.1 g with rfl | g
              · exact absurd hyk hxi
              · exact List.mem_append.2 (.inr g)
        · exact .inr (getD_set_true g)
      · by_cases hxi : x.k = i
        · obtain ⟨n, hn, rfl⟩ := List.mem_iff_getElem.1 hx
          have hn' := (hpl n _ (List.getElem?_eq_getElem hn)).1
          rw [hn'] at hxi
          subst hxi
          rw [List.getElem?_eq_getElem hn] at hyi
          cases hyi
          exact getD_set_true (hbefore j hj)
        · rw [getD_set_ne _ (Ne.symm hxi)] at hxl
          exact getD_set_true (hcl x hx hxl j hj)

/-- A region that leaves the order open. -/
theorem SC.draw {l : List AOper} {bm : List Nat} {Q : Post} {E : Env} {F : Tab} (h : PlanFrom P nt l bm [] env T E F) (hq : Q .normal E F) : SC P nt (.draw l bm) env T Q := by
  refine ⟨fun m hm G a w R => ?_⟩
  cases m <;> simp only [cCode, Option.some.injEq, reduceCtorEq] at hm
  case region id ops d =>
    split at hm
    · rename_i l' hl
      cases d with
      | false => cases hm
      | true =>
        simp only at hm
        split at hm
        · rename_i bm' hfol hbm
          cases hm
          obtain ⟨pl, e1, e2, e3, e4⟩ := h.items
          have hlen : ∀ (r : List Oper) (l : List AOper), cOpers P nt ops r = some l → l.length = r.length ∧ ∀ (i : Nat) (o : AOper), l[i]? = some o → ∃ m, r[i]? = some m ∧ cOper P nt ops m = some o := by
            intro r
            induction r with
            | nil => intro l h; simp only [cOpers, Option.some.injEq] at h; subst h; exact ⟨rfl, fun i o h => by simp at h⟩
            | cons x r ih =>
              intro l h
              simp only [cOpers] at h
              split at h
              · rename_i p q hp hq
                cases h
                obtain ⟨g1, g2⟩ := ih q hq
                refine ⟨by simp [g1], fun i o hi => ?_⟩
                cases i with
                | zero =>
                  simp only [List.getElem?_cons_zero, Option.some.injEq] at hi
                  subst hi
                  exact ⟨x, rfl, hp⟩
                | succ i =>
                  simp only [List.getElem?_cons_succ] at hi
                  exact g2 i o hi
              · cases h
          obtain ⟨hl1, hl2⟩ := hlen _ _ hl
          have hsz : pl.length = ops.size := by rw [e1, hl1]; simp
          have R1 : Rel G nt env T a { w with drawn := w.drawn + 1 } := by
            obtain ⟨r1, r2, ok, mu, I, E⟩ := R
            have N : Go.Proofs.Ytbpcjahjbkiofaa.AV.Next ok ok mu mu T T w { w with drawn := w.drawn + 1 } := Next.same I rfl rfl rfl rfl
            exact ⟨r1, r2, ok, mu, I.next N, N.env I E⟩
          refine wp_region_any hfol (any_sound (bm := bm) (pl := pl) hbm hsz (fun i x hx => ?_) (fun a' w' R' => ⟨.normal, E, F, rfl, R', hq⟩) _ _ pl env T a _ (by simp) hsz (fun y hy => ⟨hy, ?_⟩) (fun y hy => .inl hy) e3 e4 R1 (fun y hy hl j hj => ?_))
          · obtain ⟨q1, q2, q3, q4, _⟩ := e2 i x hx
            obtain ⟨m, hm1, hm2⟩ := hl2 i _ q2
            exact ⟨by rw [q1]; simp, q3, q4, m, by simpa using hm1, hm2⟩
          · obtain ⟨i, hi, rfl⟩ := List.mem_iff_getElem.1 hy
            have := (e2 i _ (List.getElem?_eq_getElem hi)).1
            rw [this]
            have : i < ops.size := by omega
            simp [this]
          · exfalso
            obtain ⟨i, hi, rfl⟩ := List.mem_iff_getElem.1 hy
            have := (e2 i _ (List.getElem?_eq_getElem hi)).1
            rw [this] at hl
            have : i < ops.size := by omega
            simp [this] at hl
        · cases hm
    · cases hm
  all_goals (repeat' split at hm) <;> first | cases hm | simp at hm

end
end Go.Proofs.Ytbpcjahjbkiofaa.AV

set_option linter.unusedVariables false
set_option linter.unusedSimpArgs false
namespace Go.Proofs.Ytbpcjahjbkiofaa.AV
open Go

def lapp (l m : List Nat) : List Nat := match l with
  | [] => m
  | x :: r => x :: lapp r m

def opdS : Opd → List Nat
  | .t n => [n]
  | .c _ => []
def opdsS : List Opd → List Nat
  | [] => []
  | x :: r => match x with
    | .t n => n :: opdsS r
    | .c _ => opdsS r
def opdOS : Option Opd → List Nat
  | none => []
  | some x => opdS x
def partsS : List (Nat × Nat × Opd) → List Nat
  | [] => []
  | (_, _, x) :: r => match x with
    | .t n => n :: partsS r
    | .c _ => partsS r

/-- The slots that an operation reads. -/
def slots : AOp → List Nat
  | .mv x | .box x | .nilc x | .not x | .neg x | .lenS x | .cvSB x | .cvBS x | .len x => opdS x
  | .pick c a b => lapp (opdS c) (lapp (opdS a) (opdS b))
  | .alloc _ | .allocA _ _ => []
  | .ld _ _ x => opdS x
  | .st _ x y => lapp (opdS x) (opdS y)
  | .bin _ x y => lapp (opdS x) (opdS y)
  | .binB _ x y | .binS _ x y => lapp (opdS x) (opdS y)
  | .eqA _ _ _ x y => lapp (opdS x) (opdS y)
  | .eqNilP _ x | .eqNil _ x => opdS x
  | .fa _ x => opdS x
  | .fld _ _ _ x => opdS x
  | .ia _ x y | .iaA _ _ x y => lapp (opdS x) (opdS y)
  | .ixS x y => lapp (opdS x) (opdS y)
  | .bld _ ps => partsS ps
  | .bsl _ l | .bslF _ l => opdsS l
  | .ext _ x => opdS x
  | .cvI _ x => opdS x
  | .sl _ x a b c => lapp (opdS x) (lapp (opdOS a) (lapp (opdOS b) (opdOS c)))
  | .slS x a b => lapp (opdS x) (lapp (opdOS a) (opdOS b))
  | .mk _ _ _ x y => lapp (opdS x) (opdS y)
  | .fn _ l => opdsS l
  | .app _ _ x y | .appz _ _ _ x y => lapp (opdS x) (opdS y)
  | .appS x y => lapp (opdS x) (opdS y)
  | .mnmx _ x y => lapp (opdS x) (opdS y)
  | .call _ l => opdsS l
  | .callv g l => lapp (opdS g) (opdsS l)
  | .cap x | .clr _ _ x => opdS x
  | .copy _ x y | .ovl _ x y => lapp (opdS x) (opdS y)

def idOf : AV → List Nat
  | .ptr id _ _ _ => [id]
  | .row _ id _ _ _ => [id]
  | _ => []

/-- The objects that an operation that goes straight on looks at. -/
def fpIds (p : AOp) (env : Env) : List Nat := match p with
  | .ld _ _ x => idOf (oval env x)
  | .st _ x _ => idOf (oval env x)
  | .nilc x => idOf (oval env x)
  | .eqNilP _ x => idOf (oval env x)
  | .fa _ x => idOf (oval env x)
  | .ia _ x _ => idOf (oval env x)
  | .iaA _ _ x _ => idOf (oval env x)
  | _ => []

def gS : Option (Nat × Bool) → List Nat
  | none => []
  | some (s, _) => [s]
def uS : Option (Nat × Ob) → List Nat
  | none => []
  | some (i, _) => [i]

def rdOf (env : Env) : List Nat → List (Nat × AV)
  | [] => []
  | n :: r => (n, eget env n) :: rdOf env r
def fpOf (T : Tab) : List Nat → List (Nat × Ob)
  | [] => []
  | n :: r => (n, tget T n) :: fpOf T r

theorem mem_lapp : ∀ {l m : List Nat} {x : Nat}, x ∈ lapp l m ↔ x ∈ l ∨ x ∈ m
  | [], m, x => by simp [lapp]
  | y :: r, m, x => by simp only [lapp, List.mem_cons, mem_lapp (l := r), or_assoc]

theorem fsts_rdOf (env : Env) : ∀ l : List Nat, fsts (rdOf env l) = l
  | [] => rfl
  | n :: r => by show n :: fsts (rdOf env r) = _; rw [fsts_rdOf env r]
theorem fsts_fpOf (T : Tab) : ∀ l : List Nat, fsts (fpOf T l) = l
  | [] => rfl
  | n :: r => by show n :: fsts (fpOf T r) = _; rw [fsts_fpOf T r]
theorem agE_rdOf {env env' : Env} : ∀ {l : List Nat}, AgE env' (rdOf env l) ↔ ∀ n ∈ l, eget env' n = eget env n
  | [] => by simp [AgE, rdOf]
  | n :: r => by
    have := agE_rdOf (env := env) (env' := env') (l := r)
    unfold AgE at this ⊢
    simp only [rdOf, List.mem_cons, forall_eq_or_imp, this]
theorem agT_fpOf {T T' : Tab} : ∀ {l : List Nat}, AgT T' (fpOf T l) ↔ ∀ n ∈ l, tget T' n = tget T n
  | [] => by simp [AgT, fpOf]
  | n :: r => by
    have := agT_fpOf (T := T) (T' := T') (l := r)
    unfold AgT at this ⊢
    simp only [fpOf, List.mem_cons, forall_eq_or_imp, this]

section
variable {env env' : Env} {T T' : Tab}

theorem oval_congr {x : Opd} (h : ∀ n ∈ opdS x, eget env' n = eget env n) : oval env' x = oval env x := by
  cases x with
  | t n => exact h n (by simp [opdS])
  | c v => rfl

theorem vals_congr : ∀ {l : List Opd}, (∀ n ∈ opdsS l, eget env' n = eget env n) → vals env' l = vals env l
  | [], _ => rfl
  | .t n :: r, h => by
    simp only [opdsS, List.mem_cons, forall_eq_or_imp] at h
    show eget env' n :: vals env' r = eget env n :: vals env r
    rw [h.1, vals_congr h.2]
  | .c v :: r, h => by
    simp only [opdsS] at h
    show ofV v :: vals env' r = ofV v :: vals env r
    rw [vals_congr h]

theorem partsV_congr {sz : Nat} : ∀ {l : List Opd}, (∀ n ∈ opdsS l, eget env' n = eget env n) → partsV env' sz l = partsV env sz l
  | [], _ => rfl
  | .t n :: r, h => by
    simp only [opdsS, List.mem_cons, forall_eq_or_imp] at h
    simp only [partsV, oval, h.1, partsV_congr h.2]
  | .c v :: r, h => by
    simp only [opdsS] at h
    simp only [partsV, oval, partsV_congr h]

theorem bldV_congr : ∀ {l : List (Nat × Nat × Opd)} {cells : List AV}, (∀ n ∈ partsS l, eget env' n = eget env n) → bldV env' cells l = bldV env cells l
  | [], _, _ => rfl
  | (o, sz, .t n) :: r, cells, h => by
    simp only [partsS, List.mem_cons, forall_eq_or_imp] at h
    simp only [bldV, oval, h.1]
    split
    · rw [bldV_congr h.2]
    · rfl
  | (o, sz, .c v) :: r, cells, h => by
    simp only [partsS] at h
    simp only [bldV, oval]
    split
    · rw [bldV_congr h]
    · rfl

theorem opV_congr {p : AOp} {nid : Nat} (he : ∀ n ∈ slots p, eget env' n = eget env n) (ht : ∀ n ∈ fpIds p env, tget T' n = tget T n) : opV p env' T' nid = opV p env T nid := by
  have m1 : ∀ {x y : Opd}, (∀ n ∈ lapp (opdS x) (opdS y), eget env' n = eget env n) → oval env' x = oval env x ∧ oval env' y = oval env y := fun h =>
    ⟨oval_congr fun n hn => h n (mem_lapp.2 (.inl hn)), oval_congr fun n hn => h n (mem_lapp.2 (.inr hn))⟩
  cases p with
  | mv x | box x | nilc x | not x | neg x | lenS x | cvSB x | cvBS x | len x | ld _ _ x | eqNilP _ x | eqNil _ x | fa _ x | fld _ _ _ x | ext _ x | cvI _ x =>
    have e := oval_congr (x := x) he
    simp only [opV, e]
    try (
      simp only [fpIds] at ht
      generalize oval env x = v at ht
      cases v <;> simp only [idOf, List.mem_singleton, forall_eq] at ht <;> first | rfl | (simp only [ht]; done) | skip)
  | pick c a b =>
    have e1 : oval env' c = oval env c := oval_congr fun n hn => he n (mem_lapp.2 (.inl hn))
    have e2 := m1 (x := a) (y := b) fun n hn => he n (mem_lapp.2 (.inr hn))
    simp only [opV, e1, e2.1, e2.2]
  | alloc | allocA => rfl
  | st sz x y =>
    have e := m1 he
    simp only [opV, e.1, e.2]
    simp only [fpIds] at ht
    generalize oval env x = v at ht
    cases v <;> simp only [idOf, List.mem_singleton, forall_eq] at ht <;> first | rfl | (simp only [ht]; done) | skip
  | bin _ x y | binB _ x y | binS _ x y | eqA _ _ _ x y | mnmx _ x y =>
    have e := m1 he
    simp only [opV, e.1, e.2]
  | bld z ps => simp only [opV, bldV_congr he]
  | bsl sz l | bslF sz l => simp only [opV, partsV_congr he]
  | fn f l => simp only [opV, vals_congr he]
  | ia | iaA | ixS | sl | slS | mk | app | appS | call | callv | appz | cap | copy | clr | ovl => rfl

theorem wantB_congr {g : Option (Nat × Bool)} (h : ∀ n ∈ gS g, eget env' n = eget env n) : wantB g env' = wantB g env := by
  cases g with
  | none => rfl
  | some p =>
    obtain ⟨s, b⟩ := p
    simp only [wantB, h s (by simp [gS])]

end

section
variable {P : Program} {nt : Nat} {env : Env} {T : Tab} {K : Env → Tab → Prop}

theorem Does.straight' {p : AOp} {v : AV} {u : Option (Nat × Ob)} {nid : Nat} (hf : tget T nid = .fresh) (hv : opV p env T nid = some (v, u)) : Does P p env T v (tupd T u) :=
  ⟨fun h1 I E => opV_sound hf I E h1 hv⟩

theorem stable_straight {o : AOper} {v : AV} {u : Option (Nat × Ob)} {nid : Nat} (hf : tget T nid = .fresh) (hw : wantB o.guard env = some true) (hv : opV o.op env T nid = some (v, u)) :
    Stable P nt o ⟨rdOf env (lapp (gS o.guard) (slots o.op)), fpOf T (nid :: lapp (fpIds o.op env) (uS u)), v, u⟩ := by
  refine ⟨fun env' T' he ht => ?_⟩
  rw [agE_rdOf] at he
  rw [agT_fpOf] at ht
  have h1 : wantB o.guard env' = some true := by rw [wantB_congr fun n hn => he n (mem_lapp.2 (.inl hn))]; exact hw
  have h2 : opV o.op env' T' nid = some (v, u) := by
    rw [opV_congr (fun n hn => he n (mem_lapp.2 (.inr hn))) fun n hn => ht n (List.mem_cons_of_mem _ (mem_lapp.2 (.inl hn)))]
    exact hv
  exact Step1.does h1 (.straight' (by rw [ht nid (by simp)]; exact hf) h2)

theorem opV_none {p : AOp} {v : AV} {nid nid' : Nat} (hv : opV p env T nid = some (v, none)) : opV p env T nid' = some (v, none) := by
  cases p <;> first | exact hv | skip
  all_goals simp only [opV] at hv ⊢
  all_goals first
    | (cases hv; done)
    | (split at hv <;> cases hv; done)

/-- An operation that changes no object. -/
theorem stable_quiet {o : AOper} {v : AV} {nid : Nat} (hw : wantB o.guard env = some true) (hv : opV o.op env T nid = some (v, none)) :
    Stable P nt o ⟨rdOf env (lapp (gS o.guard) (slots o.op)), fpOf T (fpIds o.op env), v, none⟩ := by
  refine ⟨fun env' T' he ht => ?_⟩
  rw [agE_rdOf] at he
  rw [agT_fpOf] at ht
  have h1 : wantB o.guard env' = some true := by rw [wantB_congr fun n hn => he n (mem_lapp.2 (.inl hn))]; exact hw
  have h2 : opV o.op env' T' nid = some (v, none) := by
    rw [opV_congr (fun n hn => he n (mem_lapp.2 (.inr hn))) fun n hn => ht n hn]
    exact hv
  exact Step1.does h1 (.straight' (fresh_len T') (opV_none h2))

/-- The objects that a fact hangs on. -/
def fpU (p : AOp) (env : Env) (u : Option (Nat × Ob)) : List Nat := match fpIds p env with
  | [] => uS u
  | i :: r => i :: r

theorem opV_u {p : AOp} {v : AV} {nid i : Nat} {ob : Ob} (hv : opV p env T nid = some (v, some (i, ob))) :
    (i = nid ∧ fpIds p env = []) ∨ (fpIds p env = [i] ∧ ∀ nid', opV p env T nid' = some (v, some (i, ob))) := by
  cases p with
  | st sz x y =>
    refine .inr ?_
    simp only [opV, fpIds] at hv ⊢
    split at hv
    · rename_i id ver e o hX
      rw [hX]
      simp only [idOf]
      split at hv
      · rename_i l hl
        split at hv
        · rename_i cells hT
          refine ⟨?_, fun _ => hv⟩
          cases hc : (Nat.beq l.length sz && Nat.ble (o + sz) cells.length) <;> rw [hc] at hv <;> simp at hv
          rw [hv.2.1]
        · rename_i sz' n cv f hT
          refine ⟨?_, fun _ => hv⟩
          cases hc : (Nat.beq ver cv && Nat.beq l.length sz && Nat.ble (o + sz) sz' && noRefs l) <;> rw [hc] at hv <;> simp at hv
          rw [hv.2.1]
        · cases hv
      · cases hv
    · cases hv
  | alloc | allocA => simp only [opV, Option.some.injEq, Prod.mk.injEq] at hv; exact .inl ⟨hv.2.1.symm, rfl⟩
  | box x =>
    simp only [opV] at hv
    split at hv
    · simp only [Option.some.injEq, Prod.mk.injEq] at hv; exact .inl ⟨hv.2.1.symm, rfl⟩
    · cases hv
  | bsl sz l =>
    simp only [opV] at hv
    split at hv
    · simp only [Option.some.injEq, Prod.mk.injEq] at hv; exact .inl ⟨hv.2.1.symm, rfl⟩
    · cases hv
  | bslF | ld | nilc | pick | bin | binB | binS | eqA | eqNilP | not | neg | fa | fld | bld | ext | cvI | fn | len | lenS | mnmx | mv =>
    exfalso
    simp only [opV, cond_eq_ite] at hv
    (repeat' split at hv) <;> simp at hv
  | _ => simp only [opV] at hv; cases hv

theorem stable_op {o : AOper} {v : AV} {u : Option (Nat × Ob)} {nid : Nat} (hf : tget T nid = .fresh) (hw : wantB o.guard env = some true) (hv : opV o.op env T nid = some (v, u)) :
    Stable P nt o ⟨rdOf env (lapp (gS o.guard) (slots o.op)), fpOf T (fpU o.op env u), v, u⟩ := by
  cases u with
  | none =>
    have : fpU o.op env none = fpIds o.op env := by unfold fpU; split <;> simp_all [uS]
    rw [this]
    exact stable_quiet hw hv
  | some p =>
    obtain ⟨i, ob⟩ := p
    refine ⟨fun env' T' he ht => ?_⟩
    rw [agE_rdOf] at he
    rw [agT_fpOf] at ht
    have h1 : wantB o.guard env' = some true := by rw [wantB_congr fun n hn => he n (mem_lapp.2 (.inl hn))]; exact hw
    rcases opV_u hv with ⟨rfl, hi⟩ | ⟨hi, hn⟩
    · have e : fpU o.op env (some (i, ob)) = [i] := by unfold fpU; rw [hi]; rfl
      rw [e] at ht
      have h2 : opV o.op env' T' i = some (v, some (i, ob)) := by
        rw [opV_congr (T := T) (fun n hn => he n (mem_lapp.2 (.inr hn))) fun n hn => by rw [hi] at hn; simp at hn]
        exact hv
      exact Step1.does h1 (.straight' (by rw [ht i (by simp)]; exact hf) h2)
    · have e : fpU o.op env (some (i, ob)) = [i] := by unfold fpU; rw [hi]
      rw [e] at ht
      have h2 : opV o.op env' T' T'.length = some (v, some (i, ob)) := by
        rw [opV_congr (T := T) (fun n hn => he n (mem_lapp.2 (.inr hn))) fun n hn' => by rw [hi] at hn'; exact ht n hn']
        exact hn _
      exact Step1.does h1 (.straight' (fresh_len T') h2)

theorem stable_skip {o : AOper} (hw : wantB o.guard env = some false) : Stable P nt o ⟨rdOf env (gS o.guard), [], .top, none⟩ := by
  refine ⟨fun env' T' he ht => ?_⟩
  rw [agE_rdOf] at he
  exact Step1.skip (by rw [wantB_congr he]; exact hw)

theorem stable_call0 {d : Option Nat} {g : Option (Nat × Bool)} {f : FuncId} {L : List Opd} {rv : AV} (hw : wantB g env = some true) (hc : AC P f (vals env L) [] rv []) (ha : pureL (vals env L) = true) (hr : pureV rv = true) :
    Stable P nt ⟨d, .call f L, g⟩ ⟨rdOf env (lapp (gS g) (opdsS L)), [], rv, none⟩ := by
  refine ⟨fun env' T' he ht => ?_⟩
  rw [agE_rdOf] at he
  have hv : vals env' L = vals env L := vals_congr fun n hn => he n (mem_lapp.2 (.inr hn))
  refine Step1.call (f := f) (L := L) rfl ?_ (by rw [hv]; exact hc.lift ha hr T')
  show wantB g env' = some true
  rw [wantB_congr fun n hn => he n (mem_lapp.2 (.inl hn))]; exact hw

/-- An operation whose result hangs on slots alone. -/
theorem stable_free {o : AOper} {v : AV} (hw : wantB o.guard env = some true) (hv : ∀ env' T', (∀ n ∈ slots o.op, eget env' n = eget env n) → Does P o.op env' T' v T') :
    Stable P nt o ⟨rdOf env (lapp (gS o.guard) (slots o.op)), [], v, none⟩ := by
  refine ⟨fun env' T' he ht => ?_⟩
  rw [agE_rdOf] at he
  exact Step1.does (by rw [wantB_congr fun n hn => he n (mem_lapp.2 (.inl hn))]; exact hw) (hv env' T' fun n hn => he n (mem_lapp.2 (.inr hn)))

/-- One whose result hangs on slots and objects, and that changes none. -/
theorem stable_look {o : AOper} {v : AV} {ids : List Nat} (hw : wantB o.guard env = some true) (hv : ∀ env' T', (∀ n ∈ slots o.op, eget env' n = eget env n) → (∀ n ∈ ids, tget T' n = tget T n) → Does P o.op env' T' v T') :
    Stable P nt o ⟨rdOf env (lapp (gS o.guard) (slots o.op)), fpOf T ids, v, none⟩ := by
  refine ⟨fun env' T' he ht => ?_⟩
  rw [agE_rdOf] at he
  rw [agT_fpOf] at ht
  exact Step1.does (by rw [wantB_congr fun n hn => he n (mem_lapp.2 (.inl hn))]; exact hw) (hv env' T' (fun n hn => he n (mem_lapp.2 (.inr hn))) ht)

/-! ### What is left of a region -/
structure DO (P : Program) (nt : Nat) (l : List AOper) (bm : List Nat) (h : List HF) (env : Env) (T : Tab) (K : Env → Tab → Prop) : Prop where
  out : ∃ E F, PlanFrom P nt l bm h env T E F ∧ K E F

theorem DO.nil {h : List HF} (hk : K env T) : DO P nt [] [] h env T K := ⟨env, T, .nil h env T, hk⟩

theorem DO.fact {o : AOper} {r : List AOper} {b : Nat} {bm : List Nat} {h : List HF} {rd fp : List Nat} {v : AV} {u : Option (Nat × Ob)} (hs : Stable P nt o ⟨rdOf env rd, fpOf T fp, v, u⟩)
    (hc : chkH b 0 h ⟨o.dst, rd, fp, ufst u⟩ = true) (hk : DO P nt r bm (h ++ [⟨o.dst, rd, fp, ufst u⟩]) (bindE env o.dst v) (tupd T u) K) : DO P nt (o :: r) (b :: bm) h env T K := by
  obtain ⟨E, F, hp, hK⟩ := hk.out
  have e : sh o ⟨rdOf env rd, fpOf T fp, v, u⟩ = ⟨o.dst, rd, fp, ufst u⟩ := by simp only [sh, fsts_rdOf, fsts_fpOf]
  exact ⟨E, F, .cons _ hs (agE_rdOf.2 fun _ _ => rfl) (agT_fpOf.2 fun _ _ => rfl) (by rw [e]; exact hc) (by rw [e]; exact hp), hK⟩

theorem SC.draw' {l : List AOper} {bm : List Nat} {Q : Post} (h : DO P nt l bm [] env T fun e t => Q .normal e t) : SC P nt (.draw l bm) env T Q := by
  obtain ⟨E, F, hp, hq⟩ := h.out
  exact SC.draw hp hq

theorem DO.mono {l : List AOper} {bm : List Nat} {h : List HF} {K' : Env → Tab → Prop} (hd : DO P nt l bm h env T K) (hk : ∀ e t, K e t → K' e t) : DO P nt l bm h env T K' := by
  obtain ⟨E, F, hp, hK⟩ := hd.out
  exact ⟨E, F, hp, hk _ _ hK⟩

end
end Go.Proofs.Ytbpcjahjbkiofaa.AV

set_option linter.unusedVariables false
set_option linter.unusedSimpArgs false
namespace Go.Proofs.Ytbpcjahjbkiofaa.AV
open Go

abbrev Obs := List (List Bool × List Bool)

def OKs (l : Obs) : Prop := ∀ p ∈ l, p.1 = p.2
def obL : Obs → List (List Bool)
  | [] => []
  | (a, _) :: r => a :: obL r
def obR : Obs → List (List Bool)
  | [] => []
  | (_, b) :: r => b :: obR r
theorem OKs.of : ∀ {l : Obs}, obL l = obR l → OKs l
  | [], _ => fun p hp => by simp at hp
  | (a, b) :: r, h => fun p hp => by
    simp only [obL, obR, List.cons.injEq] at h
    rcases List.mem_cons.1 hp with rfl | hp
    · exact h.1
    · exact OKs.of h.2 p hp
def oapp (l m : Obs) : Obs := match l with
  | [] => m
  | x :: r => x :: oapp r m
theorem OKs.app : ∀ {l m : Obs}, OKs (oapp l m) → OKs l ∧ OKs m
  | [], m, h => ⟨fun p hp => by simp at hp, h⟩
  | x :: r, m, h => by
    have h2 : OKs r ∧ OKs m := OKs.app fun p hp => h p (List.mem_cons_of_mem _ hp)
    refine ⟨fun p hp => ?_, h2.2⟩
    rcases List.mem_cons.1 hp with rfl | hp
    · exact h _ (by simp [oapp])
    · exact h2.1 p hp

def blen (l : List Bool) : Nat := match l with
  | [] => 0
  | _ :: r => blen r + 1
def sufx (gs : List Bool) (n : Nat) : List Bool := match gs with
  | [] => []
  | p :: r => match Nat.beq (blen (p :: r)) n with
    | true => p :: r
    | false => sufx r n
theorem AllT.sufx : ∀ {gs : List Bool} {n : Nat}, AllT gs → AllT (sufx gs n)
  | [], _, _ => trivial
  | p :: r, n, h => by
    unfold AV.sufx
    split
    · exact h
    · exact AllT.sufx h.2

def pol (b c : Bool) : Bool := match b with
  | true => c
  | false => !c

inductive GR where
  | yes (gs : List Bool)
  | no
  | unk

def gB (g : Option (Nat × Bool)) (env : Env) : GR := match g with
  | none => .yes []
  | some (s, b) => match eget env s with
    | .tt => match b with
      | true => .yes []
      | false => .no
    | .ff => match b with
      | true => .no
      | false => .yes []
    | .bool c => .yes [pol b c]
    | .when ps v => match v with
      | .tt => match b with
        | true => .yes ps
        | false => .no
      | .ff => match b with
        | true => .no
        | false => .yes ps
      | .bool c => .yes (pol b c :: ps)
      | _ => .unk
    | _ => .unk

def wrapW (gs : List Bool) (v : AV) : AV := match gs with
  | [] => v
  | p :: r => .when (p :: r) v

def unV : AV → AV
  | .when _ x => x
  | v => v

def stripE (env base : Env) : List Nat → Env
  | [] => base
  | n :: r => match eget env n with
    | .when _ x => (n, x) :: stripE env base r
    | _ => stripE env base r

def stripOb (gs : List Bool) (env : Env) : List Nat → Obs
  | [] => []
  | n :: r => match eget env n with
    | .when ps _ => (ps, sufx gs (blen ps)) :: stripOb gs env r
    | _ => stripOb gs env r

def unw (gs : List Bool) (v : AV) : AV × Obs := match v with
  | .when ps x => (x, [(ps, sufx gs (blen ps))])
  | v => (v, [])

def pickV (c : Bool) (a b : AV) : Option AV := match boolOf a, boolOf b with
  | some p, some q => match a with
    | .tt => some (.bool (c || q))
    | _ => match b with
      | .ff => some (.bool (c && p))
      | _ => some (.bool (bif c then p else q))
  | _, _ => none

def pickW (gs : List Bool) (env : Env) (c a b : Opd) : Option (AV × Obs) :=
  match unw gs (oval env c) with
  | (vc, ob0) => match vc with
    | .bool cc => match unw (cc :: gs) (oval env a), unw ((!cc) :: gs) (oval env b) with
      | (va, ob1), (vb, ob2) => match pickV cc va vb with
        | some v => some (v, oapp ob0 (oapp ob1 ob2))
        | none => none
    | .tt => match unw gs (oval env a) with
      | (va, ob1) => some (va, oapp ob0 ob1)
    | .ff => match unw gs (oval env b) with
      | (vb, ob1) => some (vb, oapp ob0 ob1)
    | _ => none

section
variable {P : Program} {nt : Nat} {env : Env} {T : Tab}

theorem rv_when {w : World} {ok : Nat → Prop} {mu : Nat → Option Nat} {z : Bool} {v : Value} {ps : List Bool} {x : AV} (h : RV w ok mu T z v (.when ps x)) : (AllT ps → RV w ok mu T z v x) ∧ (¬ AllT ps → v = undef) := by
  cases h with
  | when _ _ _ _ h h2 => exact ⟨h, h2⟩

theorem RV.wrap {w : World} {ok : Nat → Prop} {mu : Nat → Option Nat} {z : Bool} {v : Value} {gs : List Bool} {x : AV} (h : RV w ok mu T z v x) (hg : AllT gs) : RV w ok mu T z v (wrapW gs x) := by
  cases gs with
  | nil => exact h
  | cons p r => exact .when _ _ _ _ (fun _ => h) fun hn => absurd hg hn

theorem RV.wrap_undef {w : World} {ok : Nat → Prop} {mu : Nat → Option Nat} {z : Bool} {gs : List Bool} {x : AV} (hg : ¬ AllT gs) : RV w ok mu T z undef (wrapW gs x) := by
  cases gs with
  | nil => exact absurd trivial hg
  | cons p r => exact .when _ _ _ _ (fun h => absurd h hg) fun _ => rfl

theorem stripOb_spec {gs : List Bool} : ∀ {ns : List Nat}, OKs (stripOb gs env ns) → ∀ n ∈ ns, ∀ ps x, eget env n = .when ps x → ps = sufx gs (blen ps)
  | [], _, n, hn, _, _, _ => by simp at hn
  | m :: r, h, n, hn, ps, x, he => by
    simp only [stripOb] at h
    rcases List.mem_cons.1 hn with rfl | hn
    · rw [he] at h
      exact h (ps, sufx gs (blen ps)) (List.mem_cons_self ..)
    · refine stripOb_spec (ns := r) ?_ n hn ps x he
      split at h
      · exact fun p hp => h p (List.mem_cons_of_mem _ hp)
      · exact h

theorem eget_stripE (base : Env) : ∀ (ns : List Nat) (n : Nat), eget (stripE env base ns) n = (eget base n) ∨ (n ∈ ns ∧ ∃ ps x, eget env n = .when ps x ∧ eget (stripE env base ns) n = x)
  | [], n => .inl rfl
  | m :: r, n => by
    simp only [stripE]
    split
    · rename_i ps x he
      rw [eget_cons]
      by_cases h : n = m
      · subst h
        rw [if_pos rfl]
        exact .inr ⟨by simp, ps, x, he, rfl⟩
      · rw [if_neg h]
        rcases eget_stripE base r n with g | ⟨g1, g2⟩
        · exact .inl g
        · exact .inr ⟨List.mem_cons_of_mem _ g1, g2⟩
    · rcases eget_stripE base r n with g | ⟨g1, g2⟩
      · exact .inl g
      · exact .inr ⟨List.mem_cons_of_mem _ g1, g2⟩

theorem eget_stripE_in (base : Env) : ∀ (ns : List Nat) (n : Nat), n ∈ ns → eget (stripE env base ns) n = match eget env n with | .when _ x => x | _ => eget base n
  | [], n, h => by simp at h
  | m :: r, n, h => by
    simp only [stripE]
    by_cases hm : n = m
    · subst hm
      split
      · rename_i ps x he
        rw [eget_cons, if_pos rfl]
      · rename_i hno
        rcases eget_stripE (env := env) base r n with g | ⟨_, ps, x, g1, _⟩
        · exact g
        · exact absurd g1 (hno ps x)
    · have hr : n ∈ r := by simpa [hm] using h
      split
      · rw [eget_cons, if_neg hm]
        exact eget_stripE_in base r n hr
      · exact eget_stripE_in base r n hr

theorem strip_env {w : World} {ok : Nat → Prop} {mu : Nat → Option Nat} {gs : List Bool} {ns : List Nat} {tmps : Array Value} (E : EnvOK w ok mu T env tmps) (hg : AllT gs) (ho : OKs (stripOb gs env ns)) : EnvOK w ok mu T (stripE env env ns) tmps := by
  intro n
  rcases eget_stripE (env := env) env ns n with g | ⟨h1, ps, x, h2, h3⟩
  · rw [g]; exact E n
  · rw [h3]
    have := E n
    rw [h2] at this
    refine (rv_when this).1 ?_
    rw [stripOb_spec ho n h1 ps x h2]
    exact hg.sufx

/-- Whether an operation is wanted. -/
theorem gB_spec {G : Ctx} {mo : Array Oper} {o : Oper} {ao : AOper} {a : Act} {w : World} (R : Rel G nt env T a w) (h : cOper P nt mo o = some ao) :
    (gB ao.guard env = .no → Region.wanted o (yielded mo a.tmps) = false) ∧
    ∀ gs, gB ao.guard env = .yes gs → (AllT gs → Region.wanted o (yielded mo a.tmps) = true) ∧ (¬ AllT gs → Region.wanted o (yielded mo a.tmps) = false) := by
  obtain ⟨_, _, _, hg⟩ := cOper_spec h
  cases hag : ao.guard with
  | none =>
    rw [hag] at hg
    refine ⟨fun e => by simp [gB] at e, fun gs e => ?_⟩
    simp only [gB, GR.yes.injEq] at e
    subst e
    exact ⟨fun _ => by simp [Region.wanted, hg], fun hn => absurd trivial hn⟩
  | some sb =>
    obtain ⟨s, b0⟩ := sb
    rw [hag] at hg
    obtain ⟨j, hj, hs⟩ := hg
    obtain ⟨_, _, ok, mu, I, E⟩ := R
    have rs := E s
    have hy : ∀ c, a.tmps.getD s undef = .bool c → yielded mo a.tmps j = some c := fun c hc => by
      have hlt : s < a.tmps.size := by
        rcases Nat.lt_or_ge s a.tmps.size with h | h
        · exact h
        · rw [Array.getD_eq_getD_getElem?, Array.getElem?_eq_none h] at hc
          cases hc
      have : a.tmps[s]? = some (.bool c) := by
        rw [Array.getD_eq_getD_getElem?, Array.getElem?_eq_getElem hlt] at hc
        rw [Array.getElem?_eq_getElem hlt]
        exact congrArg some hc
      simp [yielded, hs, this]
    have hu : a.tmps.getD s undef = undef → Region.wanted o (yielded mo a.tmps) = false := fun hc => by
      have : yielded mo a.tmps j = none := by
        unfold yielded
        rw [hs]
        show (match a.tmps[s]? with | some (.bool b) => some b | _ => none) = none
        rw [Array.getD_eq_getD_getElem?] at hc
        cases h : a.tmps[s]? with
        | none => rfl
        | some v => rw [h] at hc; simp only [Option.getD_some] at hc; rw [hc]; rfl
      simp only [Region.wanted, hj, this]
      cases b0 <;> rfl
    have hw : ∀ c, a.tmps.getD s undef = .bool c → Region.wanted o (yielded mo a.tmps) = (c == b0) := fun c hc => by
      simp only [Region.wanted, hj, hy c hc]
      cases c <;> cases b0 <;> rfl
    have hpol : ∀ c : Bool, (c == b0) = pol b0 c := fun c => by cases c <;> cases b0 <;> rfl
    simp only [gB]
    constructor
    · intro e
      split at e
      · rename_i he; rw [he] at rs; rw [hw _ (rv_tt rs)]; cases b0 <;> simp at e ⊢
      · rename_i he; rw [he] at rs; rw [hw _ (rv_ff rs)]; cases b0 <;> simp at e ⊢
      · cases e
      · rename_i ps v he
        rw [he] at rs
        obtain ⟨r1, r2⟩ := rv_when rs
        by_cases hp : AllT ps
        · have r := r1 hp
          split at e
          · rw [hw _ (rv_tt r)]; cases b0 <;> simp at e ⊢
          · rw [hw _ (rv_ff r)]; cases b0 <;> simp at e ⊢
          · cases e
          · cases e
        · exact hu (r2 hp)
      · cases e
    · intro gs e
      split at e
      · rename_i he; rw [he] at rs; rw [hw _ (rv_tt rs)]
        cases b0 with
        | false => cases e
        | true => cases e; exact ⟨fun _ => rfl, fun hn => absurd trivial hn⟩
      · rename_i he; rw [he] at rs; rw [hw _ (rv_ff rs)]
        cases b0 with
        | true => cases e
        | false => cases e; exact ⟨fun _ => rfl, fun hn => absurd trivial hn⟩
      · rename_i c he
        rw [he] at rs
        cases e
        rw [hw _ (rv_bool rs), hpol]
        exact ⟨fun hp => hp.1, fun hn => by
          cases hc : pol b0 c with
          | false => rfl
          | true => exact absurd ⟨hc, trivial⟩ hn⟩
      · rename_i ps v he
        rw [he] at rs
        obtain ⟨r1, r2⟩ := rv_when rs
        split at e
        · cases b0 with
          | false => cases e
          | true => cases e; exact ⟨fun hp => by rw [hw _ (rv_tt (r1 hp))]; rfl, fun hn => hu (r2 hn)⟩
        · cases b0 with
          | true => cases e
          | false => cases e; exact ⟨fun hp => by rw [hw _ (rv_ff (r1 hp))]; rfl, fun hn => hu (r2 hn)⟩
        · rename_i c
          cases e
          refine ⟨fun hp => by rw [hw _ (rv_bool (r1 hp.2)), hpol]; exact hp.1, fun hn => ?_⟩
          by_cases hp : AllT ps
          · rw [hw _ (rv_bool (r1 hp)), hpol]
            cases hc : pol b0 c with
            | false => rfl
            | true => exact absurd ⟨hc, hp⟩ hn
          · exact hu (r2 hp)
        · cases e
      · cases e

theorem SO.of_step1 {o : AOper} {r : List AOper} {K : Env → Tab → Prop} {v : AV} {T' : Tab} (h : Step1 P nt o env T v T') (k : SO P nt r (bindE env o.dst v) T' K) : SO P nt (o :: r) env T K := by
  refine ⟨fun mo i hc G a w R Qm hq => ?_⟩
  obtain ⟨m, hm, hi, hco, hcr⟩ := drop_cons hc
  rw [range_drop _ _ hi, wpOps_cons]
  exact h.out mo i m hm hco G a w R _ Qm fun a' w' R' => k.out mo (i + 1) hcr G a' w' R' Qm hq

theorem Step1.no {o : AOper} (hg : gB o.guard env = .no) : Step1 P nt o env T .top T := by
  refine ⟨fun mo i m hm hco G a w R K Qm hq => ?_⟩
  obtain ⟨h1, h2, h3, _⟩ := cOper_spec hco
  simp only [wpOp, hm, (gB_spec R hco).1 hg, Bool.false_eq_true, if_false]
  rw [h2]
  exact hq _ _ (R.put_top (x := undef) h3)

/-- What an operation does where its guard holds. -/
theorem Step1.whenR {o : AOper} {gs : List Bool} {v : AV} (hg : gB o.guard env = .yes gs)
    (hv : AllT gs → ∀ {G : Ctx} {w : World} {ok : Nat → Prop} {mu : Nat → Option Nat} {a : Act} {m : Oper}, cOp P m = some o.op → Inv G ok mu T w → EnvOK w ok mu T env a.tmps → ∀ (K : Act → World → Prop) (Qm : Exit → Act → World → Prop),
      (∀ x w' ok' mu', Go.Proofs.Ytbpcjahjbkiofaa.AV.Next ok ok' mu mu' T T w w' → RV w' ok' mu' T false x v → K (a.put m.dst x) w') → m.wp P a w K Qm ∨ (m.asks P a w ∧ LetsOut Qm)) : Step1 P nt o env T (wrapW gs v) T := by
  refine ⟨fun mo i m hm hco G a w R K Qm hq => ?_⟩
  obtain ⟨h1, h2, h3, _⟩ := cOper_spec hco
  obtain ⟨g1, g2⟩ := (gB_spec R hco).2 gs hg
  obtain ⟨hdef, hs, ok, mu, I, E⟩ := R
  simp only [wpOp, hm]
  by_cases hp : AllT gs
  · rw [g1 hp, if_pos rfl]
    refine hv hp h1 I E K Qm fun x w' ok' mu' N hx => ?_
    rw [h2]
    exact hq _ _ (Rel.put hdef hs I E N (hx.wrap hp) h3)
  · rw [g2 hp, if_neg (by simp)]
    rw [h2]
    exact hq _ _ (Rel.put hdef hs I E (Next.same I rfl rfl rfl rfl) (RV.wrap_undef hp) h3)

theorem Step1.doesW {o : AOper} {gs : List Bool} {v : AV} {ns : List Nat} (hg : gB o.guard env = .yes gs) (ho : OKs (stripOb gs env ns)) (hv : AllT gs → Does P o.op (stripE env env ns) T v T) : Step1 P nt o env T (wrapW gs v) T := by
  refine Step1.whenR hg fun hp G w ok mu a m h1 I E K Qm hq => ?_
  obtain ⟨nx, x, w', ok', mu', hrun, hnx, N, hx⟩ := (hv hp).out h1 I (strip_env E hp ho)
  left
  unfold Oper.wp
  rw [hrun]
  rcases hnx with rfl | ⟨rfl, rfl⟩
  · simp only [Oper.upon]; exact hq _ _ _ _ N hx
  · simp only [Oper.upon]; exact hq _ _ _ _ N hx

theorem Step1.callW {o : AOper} {gs : List Bool} {f : FuncId} {L : List Opd} {rv : AV} (hop : o.op = .call f L) (hg : gB o.guard env = .yes gs) (ho : OKs (stripOb gs env (opdsS L)))
    (hc : AllT gs → AC P f (vals (stripE env env (opdsS L)) L) T rv T) : Step1 P nt o env T (wrapW gs rv) T := by
  refine Step1.whenR hg fun hp G w ok mu a m h1 I E K Qm hq => ?_
  rw [hop] at h1
  obtain ⟨c, hmop, hcal, hargs, fn, hfn, hb, hn⟩ := cOp_call h1
  obtain ⟨a1, a2⟩ := args_rv (strip_env E hp ho) hargs
  left
  unfold Oper.wp
  have hrun : (execOp a.eval m).run P w = .ok (.enter f (c.args.map a.eval)) w := by
    have := run_callFunc (P := P) (w := w) hfn hb hn (c.args.map a.eval)
    simp [execOp, hmop, resolve, hcal, Act.eval, Deferred.ofValue, invoke, this]
  rw [hrun, Oper.upon_enter]
  refine ((hc hp).out w ok mu I.base (c.args.map a.eval) a1 a2).mono ?_
  rintro e w' ⟨v, ok', mu', rfl, N, hv⟩
  exact hq _ _ _ _ N hv

theorem unw_rv {w : World} {ok : Nat → Prop} {mu : Nat → Option Nat} {gs : List Bool} {v : Value} {x y : AV} {ob : Obs} (h : RV w ok mu T false v x) (hu : unw gs x = (y, ob)) (ho : OKs ob) (hg : AllT gs) : RV w ok mu T false v y := by
  unfold unw at hu
  split at hu
  · simp only [Prod.mk.injEq] at hu
    obtain ⟨rfl, rfl⟩ := hu
    refine (rv_when h).1 ?_
    have := ho _ (List.mem_cons_self ..)
    simp only at this
    rw [this]
    exact hg.sufx
  · simp only [Prod.mk.injEq] at hu
    obtain ⟨rfl, rfl⟩ := hu
    exact h

theorem cOp_pick {o : Oper} {C A B : Opd} (h : cOp P o = some (.pick C A B)) : ∃ c a b, o.op = .pick c a b ∧ opd c = some C ∧ opd a = some A ∧ opd b = some B := by
  unfold cOp at h
  split at h
  case h_3 c a b hop =>
    split at h
    · rename_i C' A' B' h1 h2 h3
      cases h
      exact ⟨c, a, b, hop, h1, h2, h3⟩
    · cases h
  all_goals exfalso
  all_goals first
    | exact map_no h (fun z e => by cases e)
    | (unfold cBin at h; (repeat' split at h) <;> cases h; done)
    | (unfold cCall at h; (repeat' split at h) <;> cases h; done)
    | ((repeat' split at h) <;> cases h; done)
    | cases h

theorem pickV_spec {c : Bool} {a b v : AV} (h : pickV c a b = some v) : ∃ p q, boolOf a = some p ∧ boolOf b = some q ∧ v = .bool (bif c then p else q) := by
  unfold pickV at h
  split at h
  · rename_i p q hp hq
    refine ⟨p, q, hp, hq, ?_⟩
    split at h
    · cases h; simp only [boolOf, Option.some.injEq] at hp; subst hp; cases c <;> rfl
    · split at h
      · cases h; simp only [boolOf, Option.some.injEq] at hq; subst hq; cases c <;> simp
      · cases h; rfl
  · cases h

theorem Step1.pickW {o : AOper} {gs : List Bool} {v : AV} {C A B : Opd} {ob : Obs} (hop : o.op = .pick C A B) (hg : gB o.guard env = .yes gs) (hw : pickW gs env C A B = some (v, ob)) (ho : OKs ob) : Step1 P nt o env T (wrapW gs v) T := by
  refine Step1.whenR hg fun hp G w ok mu a m h1 I E K Qm hq => ?_
  rw [hop] at h1
  obtain ⟨c, x, y, hmop, hc, hx, hy⟩ := cOp_pick h1
  have rc := opd_rv E hc
  have rx := opd_rv E hx
  have ry := opd_rv E hy
  left
  unfold Oper.wp
  have e0 : (execOp a.eval m) = (do pure (.value (if ← asBool (a.eval c) then a.eval x else a.eval y))) := by simp [execOp, hmop]
  have same : Go.Proofs.Ytbpcjahjbkiofaa.AV.Next ok ok mu mu T T w w := Next.same I rfl rfl rfl rfl
  unfold AV.pickW at hw
  cases hc0 : unw gs (oval env C) with
  | mk vc ob0 =>
  rw [hc0] at hw
  simp only at hw
  split at hw
  · rename_i cc
    cases hx0 : unw (cc :: gs) (oval env A) with
    | mk va ob1 =>
    cases hy0 : unw ((!cc) :: gs) (oval env B) with
    | mk vb ob2 =>
    rw [hx0, hy0] at hw
    simp only at hw
    split at hw
    · rename_i v' hv
      simp only [Option.some.injEq, Prod.mk.injEq] at hw
      obtain ⟨rfl, rfl⟩ := hw
      obtain ⟨o0, o12⟩ := ho.app
      obtain ⟨o1, o2⟩ := o12.app
      obtain ⟨p, q, hpa, hqb, rfl⟩ := pickV_spec hv
      have r0 := rv_bool (unw_rv rc hc0 o0 hp)
      have hrun : (execOp a.eval m).run P w = .ok (.value (if cc then a.eval x else a.eval y)) w := by
        rw [e0, r0]
        simp [asBool]
      rw [hrun]
      simp only [Oper.upon]
      refine hq _ _ ok mu same ?_
      cases cc with
      | true =>
        have r1 := rv_boolOf (unw_rv rx hx0 o1 ⟨rfl, hp⟩) hpa
        rw [if_pos rfl, r1]
        exact .bool _ _
      | false =>
        have r1 := rv_boolOf (unw_rv ry hy0 o2 ⟨rfl, hp⟩) hqb
        rw [if_neg (by simp), r1]
        exact .bool _ _
    · cases hw
  · cases hx0 : unw gs (oval env A) with
    | mk va ob1 =>
    rw [hx0] at hw
    simp only [Option.some.injEq, Prod.mk.injEq] at hw
    obtain ⟨rfl, rfl⟩ := hw
    obtain ⟨o0, o1⟩ := ho.app
    have r0 := rv_tt (unw_rv rc hc0 o0 hp)
    have hrun : (execOp a.eval m).run P w = .ok (.value (a.eval x)) w := by
      rw [e0, r0]
      simp [asBool]
    rw [hrun]
    simp only [Oper.upon]
    exact hq _ _ ok mu same (unw_rv rx hx0 o1 hp)
  · cases hy0 : unw gs (oval env B) with
    | mk vb ob1 =>
    rw [hy0] at hw
    simp only [Option.some.injEq, Prod.mk.injEq] at hw
    obtain ⟨rfl, rfl⟩ := hw
    obtain ⟨o0, o1⟩ := ho.app
    have r0 := rv_ff (unw_rv rc hc0 o0 hp)
    have hrun : (execOp a.eval m).run P w = .ok (.value (a.eval y)) w := by
      rw [e0, r0]
      simp [asBool]
    rw [hrun]
    simp only [Oper.upon]
    exact hq _ _ ok mu same (unw_rv ry hy0 o1 hp)
  · cases hw

/-! ### The same, where the order is open -/

theorem gB_congr {env' : Env} {g : Option (Nat × Bool)} (h : ∀ n ∈ gS g, eget env' n = eget env n) : gB g env' = gB g env := by
  cases g with
  | none => rfl
  | some p =>
    obtain ⟨s, b⟩ := p
    simp only [gB, h s (by simp [gS])]

theorem stripOb_congr {env' : Env} {gs : List Bool} : ∀ {ns : List Nat}, (∀ n ∈ ns, eget env' n = eget env n) → stripOb gs env' ns = stripOb gs env ns
  | [], _ => rfl
  | m :: r, h => by
    simp only [stripOb, h m (by simp), stripOb_congr (ns := r) fun n hn => h n (List.mem_cons_of_mem _ hn)]

theorem stripE_congr {env' : Env} {ns : List Nat} (h : ∀ n ∈ ns, eget env' n = eget env n) : ∀ n ∈ ns, eget (stripE env' env' ns) n = eget (stripE env env ns) n := fun n hn => by
  rw [eget_stripE_in _ _ _ hn, eget_stripE_in _ _ _ hn, h n hn]

theorem pickW_congr {env' : Env} {gs : List Bool} {c a b : Opd} (h : ∀ n ∈ slots (.pick c a b), eget env' n = eget env n) : pickW gs env' c a b = pickW gs env c a b := by
  have e1 : oval env' c = oval env c := oval_congr fun n hn => h n (mem_lapp.2 (.inl hn))
  have e2 : oval env' a = oval env a := oval_congr fun n hn => h n (mem_lapp.2 (.inr (mem_lapp.2 (.inl hn))))
  have e3 : oval env' b = oval env b := oval_congr fun n hn => h n (mem_lapp.2 (.inr (mem_lapp.2 (.inr hn))))
  simp only [pickW, e1, e2, e3]

theorem stable_no {o : AOper} (hg : gB o.guard env = .no) : Stable P nt o ⟨rdOf env (gS o.guard), [], .top, none⟩ := by
  refine ⟨fun env' T' he ht => ?_⟩
  rw [agE_rdOf] at he
  exact Step1.no (by rw [gB_congr he]; exact hg)

theorem stable_pickW {o : AOper} {gs : List Bool} {v : AV} {C A B : Opd} {ob : Obs} (hop : o.op = .pick C A B) (hg : gB o.guard env = .yes gs) (hw : pickW gs env C A B = some (v, ob)) (ho : OKs ob) :
    Stable P nt o ⟨rdOf env (lapp (gS o.guard) (slots o.op)), [], wrapW gs v, none⟩ := by
  refine ⟨fun env' T' he ht => ?_⟩
  rw [agE_rdOf] at he
  refine Step1.pickW hop (by rw [gB_congr fun n hn => he n (mem_lapp.2 (.inl hn))]; exact hg) ?_ ho
  rw [pickW_congr fun n hn => he n (mem_lapp.2 (.inr (by rw [hop]; exact hn)))]
  exact hw

theorem stable_W {o : AOper} {gs : List Bool} {v : AV} {nid : Nat} (hg : gB o.guard env = .yes gs) (ho : OKs (stripOb gs env (slots o.op))) (hv : opV o.op (stripE env env (slots o.op)) T nid = some (v, none)) :
    Stable P nt o ⟨rdOf env (lapp (gS o.guard) (slots o.op)), fpOf T (fpIds o.op (stripE env env (slots o.op))), wrapW gs v, none⟩ := by
  refine ⟨fun env' T' he ht => ?_⟩
  rw [agE_rdOf] at he
  rw [agT_fpOf] at ht
  have hsl : ∀ n ∈ slots o.op, eget env' n = eget env n := fun n hn => he n (mem_lapp.2 (.inr hn))
  refine Step1.doesW (ns := slots o.op) (by rw [gB_congr fun n hn => he n (mem_lapp.2 (.inl hn))]; exact hg) (by rw [stripOb_congr hsl]; exact ho) fun _ => ?_
  have h2 : opV o.op (stripE env' env' (slots o.op)) T' nid = some (v, none) := by
    rw [opV_congr (T := T) (env := stripE env env (slots o.op)) (stripE_congr hsl) fun n hn => ht n hn]
    exact hv
  exact Does.straight' (fresh_len T') (opV_none h2)

theorem stable_callW {d : Option Nat} {g : Option (Nat × Bool)} {gs : List Bool} {f : FuncId} {L : List Opd} {rv : AV} (hg : gB g env = .yes gs) (ho : OKs (stripOb gs env (opdsS L)))
    (hc : AllT gs → AC P f (vals (stripE env env (opdsS L)) L) [] rv []) (ha : pureL (vals (stripE env env (opdsS L)) L) = true) (hr : pureV rv = true) :
    Stable P nt ⟨d, .call f L, g⟩ ⟨rdOf env (lapp (gS g) (opdsS L)), [], wrapW gs rv, none⟩ := by
  refine ⟨fun env' T' he ht => ?_⟩
  rw [agE_rdOf] at he
  have hsl : ∀ n ∈ opdsS L, eget env' n = eget env n := fun n hn => he n (mem_lapp.2 (.inr hn))
  have hv : vals (stripE env' env' (opdsS L)) L = vals (stripE env env (opdsS L)) L := vals_congr (stripE_congr hsl)
  refine Step1.callW (f := f) (L := L) rfl (by rw [gB_congr fun n hn => he n (mem_lapp.2 (.inl hn))]; exact hg) (by rw [stripOb_congr hsl]; exact ho) fun hp => ?_
  rw [hv]
  exact (hc hp).lift ha hr T'

end
end Go.Proofs.Ytbpcjahjbkiofaa.AV

