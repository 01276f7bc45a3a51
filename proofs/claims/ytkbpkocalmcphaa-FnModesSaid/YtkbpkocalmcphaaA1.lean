/- A generator of verification conditions for the loaded code: definitions, steps, meaning. -/
import Derived.WalkKit
import Derived.WalkLawsBesides
import Derived.Below
import Derived.KernelRfl
import Derived.Orders
import Derived.Laws.MakeOwn
/- Abstract values, abstract heaps and a generator of verification conditions for the loaded code: definitions. My own framework, proved sound in the files behind it. -/
namespace Go.Vc
open Go

/-- What is known of a slice's capacity: just this; that of its own block, from whose head it begins; nothing. -/
inductive Cap where
  | ex (c : Nat) | own | any
  deriving Inhabited, DecidableEq

def Cap.less : Cap → Nat → Cap
  | c, 0 => c
  | .ex c, l => .ex (c - l)
  | _, _ => .any

/-- Abstract values. Floats stand modulo the payload of a NaN; a pointer or slice names an abstract block by its number. -/
inductive AV where
  | u
  | b (x : Bool)
  | i (k : IntKind) (n : Int)
  | f (k : FloatKind) (x : Nat)
  | c (k : FloatKind) (x y : Nat)
  | s (x : ByteArray)
  | p (k o : Nat)
  | sl (k o n : Nat) (cap : Cap)
  | np
  | ns
  | ag (xs : List AV)
  | tu (xs : List AV)
  | fn (f : FuncId) (cap : List AV)
  deriving Inhabited

structure Blk where
  ty : TypeId
  ro : Bool
  cells : List AV
  deriving Inhabited

abbrev Hp := List Blk
abbrev Env := Nat → AV

def qnan : FloatKind → Nat
  | .f32 => 2143289344
  | .f64 => 9221120237041090561

def canon (k : FloatKind) (x : Nat) : Nat := if (k.decode x).isNaN then qnan k else x

/-- '+ - * /' on floats, a NaN written in one way. -/
def fbin (op : BinOp) (k : FloatKind) (x y : Nat) : Nat := (floatBits op k x y).getD (qnan k)

def upd (σ : Env) (d : Option Nat) (v : AV) : Env := fun t => if some t = d then v else σ t

/-- A cell's value out of a value of the program's text. -/
def ofCell : Value → AV
  | .bool x => .b x
  | .int k n => .i k n
  | .float k x => .f k (canon k x)
  | .complex k x y => .c k (canon k x) (canon k y)
  | .string x => .s x
  | .pointer none => .np
  | .slice none n c => if n = 0 ∧ c = 0 then .ns else .u
  | .func (.func f) a b => if a.size = 0 ∧ b.size = 0 then .fn f [] else .u
  | _ => .u

def ofVal : Value → AV
  | .agg cs => .ag (cs.toList.map ofCell)
  | v => ofCell v

inductive Shape where
  | other | int (k : IntKind) | float (k : FloatKind) | complex (k : FloatKind) | string | bool
  | slice (e : TypeId) | array (n : Nat) (e : TypeId) | struct (fs : List (Nat × TypeId)) | ptr (e : TypeId)
  deriving Inhabited, DecidableEq

structure TI where
  size : Nat
  bytes : Nat
  zero : List AV
  shape : Shape
  places : List (Nat × Nat) := []
  deriving Inhabited

def Shape.agg : Shape → Bool
  | .array .. | .struct _ => true
  | _ => false

def shapeOf : TypeDesc → Shape
  | .int k => .int k
  | .float k => .float k
  | .complex k => .complex k
  | .string => .string
  | .bool => .bool
  | .slice e => .slice e
  | .array n e => .array n e
  | .struct fs => .struct (fs.toList.map fun f => (f.offset, f.type))
  | .pointer e => .ptr e
  | _ => .other

/-- Where a struct's fields lie. -/
def placesOf (P : Program) : TypeDesc → Option (List (Nat × Nat))
  | .struct fs => fs.toList.mapM fun f => (P.info? f.type).map fun i => (f.offset, i.size)
  | _ => some []

/-- What is known of a type of the program. -/
def tof (P : Program) (t : TypeId) : Option TI :=
  match P.info? t, P.underlying t with
  | some i, some d => match i.zero with
    | some z => match placesOf P d with
      | some ps => if z.cells.size = i.size then some { size := i.size, bytes := i.bytes, zero := z.cells.toList.map ofCell, shape := shapeOf d, places := ps } else none
      | none => none
    | none => none
  | _, _ => none

def ev (σ : Env) : Operand → AV
  | .tmp t => σ t
  | .const v => ofVal v
  | .global _ => .u
  | .func f => .fn f []

def AV.cells : AV → List AV
  | .ag xs => xs
  | v => [v]

/-- What stands in cells from o on, as a value of a type. -/
def readAt (cells : List AV) (o : Nat) (ti : TI) : Option AV :=
  if ti.shape.agg then (if o + ti.size ≤ cells.length then some (.ag ((cells.drop o).take ti.size)) else none) else cells[o]?

/-- Does it fit one cell? -/
def AV.isCell : AV → Bool
  | .u | .ag _ | .tu _ => false
  | _ => true

/-- Cells with others from o on. -/
def splice (cells : List AV) (o : Nat) (new : List AV) : List AV := cells.take o ++ new ++ cells.drop (o + new.length)

def load (P : Program) (H : Hp) (t : TypeId) (k o : Nat) : Option AV :=
  match tof P t, H[k]? with
  | some ti, some bl => readAt bl.cells o ti
  | _, _ => none

def store (P : Program) (H : Hp) (t : TypeId) (k o : Nat) (v : AV) : Option Hp :=
  match tof P t, H[k]? with
  | some ti, some bl => if bl.ro = false ∧ v.cells.length = ti.size ∧ o + ti.size ≤ bl.cells.length ∧ v.cells.all AV.isCell = true then some (H.set k { bl with cells := splice bl.cells o v.cells }) else none
  | _, _ => none

def AV.known : AV → Bool
  | .u => false
  | _ => true

/-- Parts laid into cells. -/
def fillAV (place : Nat → Option (Nat × Nat)) : List AV → List (Nat × AV) → Option (List AV)
  | cells, [] => some cells
  | cells, (i, v) :: rest =>
    match place i with
    | none => none
    | some (off, size) => if v.known = true ∧ v.cells.length = size ∧ off + size ≤ cells.length then fillAV place (splice cells off v.cells) rest else none

def intBin (op : BinOp) (k : IntKind) (a b : Int) : Option AV :=
  match op with
  | .add => some (.i k (k.wrap (a + b)))
  | .sub => some (.i k (k.wrap (a - b)))
  | .mul => some (.i k (k.wrap (a * b)))
  | .quo => if b = 0 then none else some (.i k (k.wrap (a.tdiv b)))
  | .rem => if b = 0 then none else some (.i k (a.tmod b))
  | .eql => some (.b (decide (a = b)))
  | .neq => some (.b (!decide (a = b)))
  | .lss => some (.b (decide (a < b)))
  | .leq => some (.b (decide (a ≤ b)))
  | .gtr => some (.b (decide (b < a)))
  | .geq => some (.b (decide (b ≤ a)))
  | .and => some (.i k (k.wrap (BitVec.ofInt k.bits a &&& BitVec.ofInt k.bits b).toNat))
  | .or => some (.i k (k.wrap (BitVec.ofInt k.bits a ||| BitVec.ofInt k.bits b).toNat))
  | .xor => some (.i k (k.wrap (BitVec.ofInt k.bits a ^^^ BitVec.ofInt k.bits b).toNat))
  | .andNot => some (.i k (k.wrap (BitVec.ofInt k.bits a &&& ~~~ BitVec.ofInt k.bits b).toNat))
  | _ => none

def flCmp (op : BinOp) (k : FloatKind) (x y : Nat) : Option Bool :=
  let c := k.format.order x y
  match op with
  | .eql => some (c == some .eq)
  | .neq => some (c != some .eq)
  | .lss => some (c == some .lt)
  | .leq => some (c == some .lt || c == some .eq)
  | .gtr => some (c == some .gt)
  | .geq => some (c == some .gt || c == some .eq)
  | _ => none

def bin (op : BinOp) (sh : Option Shape) (x y : AV) : Option AV :=
  match x, y with
  | .i k a, .i k' b =>
    if op = .shl ∨ op = .shr then
      (if 0 ≤ b then some (.i k (if op = .shl then k.wrap (a * 2 ^ (min b.toNat k.bits)) else a.fdiv (2 ^ (min b.toNat k.bits)))) else none)
    else if k = k' then intBin op k a b else none
  | .f k a, .f k' b => if k = k' then
      match op with
      | .add | .sub | .mul | .quo => some (.f k (fbin op k a b))
      | _ => (flCmp op k a b).map .b
    else none
  | .c k a b, .c k' a' b' => if k = k' then
      match op with
      | .add | .sub => some (.c k (fbin op k a a') (fbin op k b b'))
      | .eql => some (.b ((k.format.order a a' == some .eq) && (k.format.order b b' == some .eq)))
      | .neq => some (.b (!((k.format.order a a' == some .eq) && (k.format.order b b' == some .eq))))
      | _ => none
    else none
  | .b a, .b b' => if sh = some .bool then match op with
      | .eql => some (.b (a == b'))
      | .neq => some (.b (!(a == b')))
      | _ => none
    else none
  | .s a, .s b' => match op with
      | .add => if a.size + b'.size ≤ 9223372036854775807 then some (.s (a ++ b')) else none
      | .eql => some (.b (a.toList == b'.toList))
      | .neq => some (.b (!(a.toList == b'.toList)))
      | _ => none
  | _, _ => none

/-- The other sign. -/
def fneg (k : FloatKind) (x : Nat) : Nat := if (k.decode x).isNaN then qnan k else Op.negFloat k x

def un (op : UnOp) (x : AV) : Option AV :=
  match op, x with
  | .not, .b a => some (.b (!a))
  | .neg, .i k a => some (.i k (k.wrap (-a)))
  | .neg, .f k a => some (.f k (fneg k a))
  | .neg, .c k a a' => some (.c k (fneg k a) (fneg k a'))
  | _, _ => none

def conv (src dst : TI) (x : AV) : Option AV :=
  match dst.shape, x with
  | .int k, .i _ n => some (.i k (k.wrap n))
  | .float k, .i _ n => some (.f k (k.nearest n))
  | .int k, .f s a => (floatToIntVal s a k).map (.i k)
  | .float k, .f s a => if s = k then some (.f k a) else if (s.decode a).isNaN then some (.f k (qnan k)) else (floatToFloatBits s a k).map (.f k)
  | .complex k, .c s a a' => if s = k then some (.c k a a') else none
  | .string, .s a => some (.s a)
  | _, _ => let _ := src; none

def maxAV (x y : AV) : Option AV :=
  match x, y with
  | .i k a, .i k' b => if k = k' then some (.i k (if b > a then b else a)) else none
  | .f k a, .f k' b => if k = k' then
      match k.format.order a b with
      | none => some (.f k (qnan k))
      | some .lt => some (.f k b)
      | some .gt => some (.f k a)
      | some .eq => some (.f k (if (k.decode a).neg then b else a))
    else none
  | _, _ => none

def builtinAV (bi : Builtin) (args : List AV) : Option AV :=
  match bi, args with
  | .real, [.c k x _] => some (.f k x)
  | .imag, [.c k _ y] => some (.f k y)
  | .complex, [.f k x, .f k' y] => if k = k' then some (.c k x y) else none
  | .max, [x, y] => maxAV x y
  | _, _ => none

def lenAV (sh : Shape) (x : AV) : Option AV :=
  match sh, x with
  | .string, .s x => some (.i .i64 x.size)
  | .slice _, .sl _ _ n _ => some (.i .i64 n)
  | .slice _, .ns => some (.i .i64 0)
  | .array n _, _ => some (.i .i64 n)
  | _, _ => none

/-- Zeroes of n elements. -/
def zeros : Nat → List AV → List AV
  | 0, _ => []
  | n + 1, z => z ++ zeros n z

/-- The cells that are appended, and how many elements they are. -/
def srcAV (H : Hp) (size : Nat) : AV → Option (Nat × List AV)
  | .ns => some (0, [])
  | .sl k o m _ => match H[k]? with
    | some bl => if o + m * size ≤ bl.cells.length ∧ ((bl.cells.drop o).take (m * size)).all AV.isCell = true then some (m, (bl.cells.drop o).take (m * size)) else none
    | none => none
  | _ => none

/-- 'append(s, x...)' of two slices: what comes of it lies in a block with a new number; the block of s is not to be met any more. -/
def appendAV (P : Program) (H : Hp) (t : TypeId) (s x : AV) : Option (AV × Hp × Nat) :=
  match tof P t with
  | some ti => match ti.shape with
    | .slice e => match tof P e with
      | some ei =>
        match srcAV H ei.size x with
        | none => none
        | some (m, new) => match s with
          | .ns => if m = 0 then some (.ns, H, 0) else some (.sl H.length 0 m .own, H ++ [⟨e, false, new⟩], m * max 1 ei.bytes)
          | .sl k 0 n .own => match H[k]? with
            | some bl => if bl.ro = false ∧ bl.ty = e ∧ bl.cells.length = n * ei.size ∧ ei.size ≠ 0 then some (.sl H.length 0 (n + m) .own, H.set k ⟨e, true, []⟩ ++ [⟨e, false, bl.cells ++ new⟩], (n + m) * max 1 ei.bytes) else none
            | none => none
          | _ => none
      | none => none
    | _ => none
  | none => none

inductive Ex where
  | normal | exit (id : Nat) | ret
  deriving DecidableEq

abbrev St := Env × Hp
/-- A contract of a function: called with these arguments over these blocks it returns that, over those blocks. Its meaning in the model: 'CallsTo' (Vc2). -/
abbrev Contract := FuncId → List AV → Hp → AV → Hp → Prop

/-- Renaming of a callee's block numbers: ρ names the caller's blocks, the new ones are numbered from 'base' on. -/
def renN (ρ : List Nat) (base : Nat) (k : Nat) : Nat := match ρ[k]? with
  | some j => j
  | none => base + (k - ρ.length)

mutual
def ren (ρ : List Nat) (base : Nat) : AV → AV
  | .p k o => .p (renN ρ base k) o
  | .sl k o n cap => .sl (renN ρ base k) o n cap
  | .ag xs => .ag (renL ρ base xs)
  | .tu xs => .tu (renL ρ base xs)
  | .fn f cap => .fn f (renL ρ base cap)
  | .u => .u | .b x => .b x | .i k n => .i k n | .f k x => .f k x | .c k x y => .c k x y | .s x => .s x | .np => .np | .ns => .ns
def renL (ρ : List Nat) (base : Nat) : List AV → List AV
  | [] => []
  | x :: xs => ren ρ base x :: renL ρ base xs
end

def renB (ρ : List Nat) (base : Nat) (bl : Blk) : Blk := { bl with cells := renL ρ base bl.cells }

/-- The caller's heap behind the call: what the callee may write, as it left it; the new blocks behind. -/
def graftR (ρ : List Nat) (base : Nat) : List Nat → Hp → Hp → Hp → Hp
  | k :: ks, b :: bs, b' :: bs', H => graftR ρ base ks bs bs' (if b.ro then H else H.set k (renB ρ base b'))
  | [], [], bs', H => H ++ bs'.map (renB ρ base)
  | _, _, _, H => H
def graft (ρ : List Nat) (H Hl Hl' : Hp) : Hp := graftR ρ H.length ρ Hl Hl' H

/-- The callee's blocks are the caller's: what is read-only there may be anything here. -/
def fitsR (ρ : List Nat) (base : Nat) (H : Hp) : List Nat → Hp → Prop
  | [], [] => True
  | k :: ks, bl :: bs => (∃ bk : Blk, H[k]? = some bk ∧ bk.cells = renL ρ base bl.cells ∧ bk.ty = bl.ty ∧ (bl.ro = false → bk.ro = false ∧ ρ.count k = 1)) ∧ fitsR ρ base H ks bs
  | _, _ => False
def fits (ρ : List Nat) (base : Nat) (H Hl : Hp) : Prop := fitsR ρ base H ρ Hl

def callVC (Φ : Contract) (f : FuncId) (args : List AV) (H : Hp) (K : AV → Hp → Prop) : Prop :=
  ∃ (ρ : List Nat) (Hl Hl' : Hp) (la : List AV) (r : AV), Φ f la Hl r Hl' ∧ renL ρ H.length la = args ∧ fits ρ H.length H Hl ∧ K (ren ρ H.length r) (graft ρ H Hl Hl')

def sliceAV (P : Program) (t : TypeId) (x : AV) (lo hi mx : Option AV) : Option AV :=
  let num (d : Nat) : Option AV → Option Nat
    | none => some d
    | some (.i _ n) => if 0 ≤ n then some n.toNat else none
    | some _ => none
  match tof P t, x with
  | some ti, .s s => match ti.shape, num 0 lo, num s.size hi, mx with
    | .string, some l, some h, none => if l ≤ h ∧ h ≤ s.size then some (.s (s.extract l h)) else none
    | _, _, _, _ => none
  | some ti, .sl k o n cap => match ti.shape, num 0 lo, num n hi with
    | .slice e, some l, some h => match tof P e, mx with
      | some ei, none => if l ≤ h ∧ h ≤ n then some (.sl k (o + l * ei.size) (h - l) (if l = h ∧ l ≠ 0 then .any else cap.less l)) else none
      | _, _ => none
    | _, _, _ => none
  | some ti, .ns => match ti.shape, num 0 lo, num 0 hi, mx with
    | .slice e, some 0, some 0, none => match tof P e with
      | some _ => some .ns
      | none => none
    | _, _, _, _ => none
  | _, _ => none

/-- An operation's outcome: its value, and the blocks behind it. -/
def opV (P : Program) (Φ : Contract) (o : Op) (σ : Env) (H : Hp) (κ : AV → Hp → Prop) : Prop :=
  let put (v : Option AV) : Prop := match v with | some v => κ v H | none => False
  match o with
  | .move x | .assign x => κ (ev σ x) H
  | .pick c x y => match ev σ c with
    | .b t => κ (if t then ev σ x else ev σ y) H
    | _ => False
  | .alloc e => match tof P e with
    | some ti => κ (.p H.length 0) (H ++ [⟨e, false, ti.zero⟩])
    | none => False
  | .box e x => (ev σ x).known = true ∧ (∀ ti, tof P e = some ti → (ev σ x).cells.length = ti.size) ∧ κ (.p H.length 0) (H ++ [⟨e, false, (ev σ x).cells⟩])
  | .build t parts => match tof P t with
    | some ti => match ti.shape with
      | .struct _ => put ((fillAV (ti.places[·]?) ti.zero (parts.toList.map fun q => (q.1, ev σ q.2))).map .ag)
      | .array _ e => match tof P e with
        | some ei => put ((fillAV (fun i => some (i * ei.size, ei.size)) ti.zero (parts.toList.map fun q => (q.1, ev σ q.2))).map .ag)
        | none => False
      | _ => False
    | none => False
  | .buildSlice t len parts => match tof P t with
    | some ti => match ti.shape with
      | .slice e => match tof P e with
        | some ei => match fillAV (fun i => some (i * ei.size, ei.size)) (List.replicate (len * ei.size) .u) (parts.toList.map fun q => (q.1, ev σ q.2)) with
          | some cs => (len * ei.size ≤ 2 ^ 24 ∧ len ≤ 2 ^ 24) ∧ κ (.sl H.length 0 len .own) (H ++ [⟨e, false, cs⟩])
          | none => False
        | none => False
      | _ => False
    | none => False
  | .makeSlice t l c => match tof P t, ev σ l, ev σ c with
    | some ti, .i _ n, .i _ m => match ti.shape with
      | .slice e => match tof P e with
        | some ei => (n = m ∧ 0 ≤ n ∧ n ≤ 16777216 ∧ (ei.bytes : Int) * n ≤ 281474976710656) ∧ κ (.sl H.length 0 n.toNat .own) (H ++ [⟨e, false, zeros n.toNat ei.zero⟩])
        | none => False
      | _ => False
    | _, _, _ => False
  | .load t x => match ev σ x with
    | .p k o' => put (load P H t k o')
    | _ => False
  | .store t x v => match ev σ x with
    | .p k o' => match store P H t k o' (ev σ v) with
      | some H' => κ .u H'
      | none => False
    | _ => False
  | .nilCheck x => match ev σ x with
    | .p k o' => κ (.p k o') H
    | _ => False
  | .binOp op t x y _ => put (bin op ((tof P t).map (·.shape)) (ev σ x) (ev σ y))
  | .unOp op _ x => put (un op (ev σ x))
  | .convert s d x => match tof P s, tof P d with
    | some si, some di => put (conv si di (ev σ x))
    | _, _ => False
  | .fieldAddr t x j => match tof P t, ev σ x with
    | some ti, .p k o' => match ti.shape with
      | .struct fs => match fs[j]? with
        | some (off, ft) => match tof P ft with
          | some fi => fi.size ≠ 0 ∧ κ (.p k (o' + off)) H
          | none => False
        | none => False
      | _ => False
    | _, _ => False
  | .field t x j => match tof P t, ev σ x with
    | some ti, .ag cs => match ti.shape with
      | .struct fs => match fs[j]? with
        | some (off, ft) => match tof P ft with
          | some fi => put (readAt cs off fi)
          | none => False
        | none => False
      | _ => False
    | _, _ => False
  | .indexAddr t x ix => match tof P t, ev σ x, ev σ ix with
    | some ti, .sl k o' n _, .i _ j => match ti.shape with
      | .slice e => match tof P e with
        | some ei => (0 ≤ j ∧ j < n) ∧ κ (.p k (o' + j.toNat * ei.size)) H
        | none => False
      | _ => False
    | some ti, .p k o', .i _ j => match ti.shape with
      | .array n e => match tof P e with
        | some ei => (0 ≤ j ∧ j < n) ∧ κ (.p k (o' + j.toNat * ei.size)) H
        | none => False
      | _ => False
    | _, _, _ => False
  | .index t x ix => match tof P t, ev σ x, ev σ ix with
    | some ti, .ag cs, .i _ j => match ti.shape with
      | .array n e => match tof P e with
        | some ei => (0 ≤ j ∧ j < n) ∧ put (readAt cs (j.toNat * ei.size) ei)
        | none => False
      | _ => False
    | some ti, .s s, .i _ j => match ti.shape with
      | .string => (0 ≤ j ∧ j < s.size) ∧ κ ((.i .u8 (s.data.toList.getD j.toNat 0).toNat)) H
      | _ => False
    | _, _, _ => False
  | .slice t x lo hi mx => put (sliceAV P t (ev σ x) (lo.map (ev σ)) (hi.map (ev σ)) (mx.map (ev σ)))
  | .extract x j => match ev σ x with
    | .tu vs => put vs[j]?
    | _ => False
  | .makeFunc (.func f) first cap => if first.size = 0 then κ ((.fn f (cap.toList.map (ev σ)))) H else False
  | .call { callee := .builtin bi, args := as, argTypes := ts } => match bi, as.toList, ts.toList with
    | .len, [x], [t] => match tof P t with
      | some ti => put (lenAV ti.shape (ev σ x))
      | none => False
    | .append, [s, x], [t, t'] => if t = t' then match appendAV P H t (ev σ s) (ev σ x) with
        | some (v, H', by_) => by_ ≤ 140737488355328 ∧ κ v H'
        | none => False
      else False
    | bi, as, _ => put (builtinAV bi (as.map (ev σ)))
  | .call { callee := .value g, args := as, argTypes := _ } => match ev σ g with
    | .fn f cap => callVC Φ f (as.toList.map (ev σ) ++ cap) H κ
    | _ => False
  | _ => False

def opVC (P : Program) (Φ : Contract) (o : Oper) (σ : Env) (H : Hp) (K : Env → Hp → Prop) : Prop := opV P Φ o.op σ H fun v H' => K (upd σ o.dst v) H'

/-- Is a guarded operation wanted? -/
def guardVC (ops : Array Oper) (o : Oper) (σ : Env) (yes no : Prop) : Prop :=
  match o.guard with
  | none => yes
  | some (j, want) => match (ops[j]?).bind (·.dst) with
    | some d => match σ d with
      | .b x => (x = want → yes) ∧ (x = !want → no)
      | _ => False
    | none => False

def opsVC (P : Program) (Φ : Contract) (ops : Array Oper) : List Oper → Env → Hp → (Env → Hp → Prop) → Prop
  | [], σ, H, K => K σ H
  | o :: rest, σ, H, K => guardVC ops o σ (opVC P Φ o σ H fun σ' H' => opsVC P Φ ops rest σ' H' K) (opsVC P Φ ops rest (upd σ o.dst .u) H K)

/-! ### regions that draw their order -/
/-- Does it neither read nor write blocks? -/
def opN : Op → Bool
  | .move _ | .assign _ | .pick .. | .build .. | .nilCheck _ | .binOp .. | .unOp .. | .convert .. | .fieldAddr .. | .field .. | .indexAddr .. | .index .. | .slice .. | .extract .. | .makeFunc .. => true
  | .call { callee := .builtin bi, args := _, argTypes := _ } => bi != .append
  | _ => false

def opLoad : Op → Bool
  | .load .. => true
  | _ => false

/-- Those that stand ahead. -/
def pres (o : Oper) : List Nat := (o.after.toList.filter fun e => Region.binds .any e).map (·.on)

/-- Of each operation, those that must come before it: the bits of a number. -/
def preM (ops : List Oper) : List Nat := ops.foldl (fun acc o => acc ++ [(pres o).foldl (fun m j => m ||| (2 ^ j ||| acc.getD j 0)) 0]) []

/-- The operation at 'i' comes behind that at 'j'. -/
def behind (pm : List Nat) (i j : Nat) : Bool := (pm.getD i 0).testBit j

/-- What kind of operation: it looks at blocks (a load, or a call that is listed), or may change them. -/
def isL (lk : List Nat) (i : Nat) (o : Oper) : Bool := opLoad o.op || lk.contains i
def isM (lk : List Nat) (i : Nat) (o : Oper) : Bool := !opN o.op && !isL lk i o

def looks (ops : Array Oper) (o : Oper) : List Tmp := o.looksAt ops

def pairOK (ops : Array Oper) (pm lk : List Nat) (j : Nat) (x : Oper) (i : Nat) (y : Oper) : Bool :=
  behind pm i j || ((match x.dst with
    | some d => !(looks ops y).contains d && y.dst != some d
    | none => true) && (match y.dst with
    | some d => !(looks ops x).contains d
    | none => true) && !(isM lk j x && isM lk i y))

/-- Two operations write to one place. -/
def dupOK (x y : Oper) : Bool := match x.dst with
  | some d => y.dst != some d
  | none => true

def rowOK (ops : Array Oper) (pm lk : List Nat) (i : Nat) (y : Oper) : Nat → List Oper → Bool
  | _, [] => true
  | j, x :: xs => (if j < i then pairOK ops pm lk j x i y && dupOK x y else true) && rowOK ops pm lk i y (j + 1) xs

def allOK (ops : Array Oper) (pm lk : List Nat) (all : List Oper) : Nat → List Oper → Bool
  | _, [] => true
  | i, y :: ys => (pm.getD i 0 < 2 ^ i) && rowOK ops pm lk i y 0 all && allOK ops pm lk all (i + 1) ys

def regOK (l : List Oper) (lk : List Nat) : Bool := allOK l.toArray (preM l) lk l 0 l

/-- An operation with its guard. -/
def gV (P : Program) (Φ : Contract) (ops : Array Oper) (o : Oper) (σ : Env) (H : Hp) (κ : AV → Hp → Prop) : Prop := guardVC ops o σ (opV P Φ o.op σ H κ) (κ .u H)

/-- Over other blocks it has the same outcome. -/
def again (P : Program) (Φ : Contract) (ops : Array Oper) (o : Oper) (σ : Env) (v : AV) (h : Hp) : Prop := gV P Φ ops o σ h fun x g => x = v ∧ g = h

/-- In the order of the text, with what makes every other order lead to the same end. -/
def opsD (P : Program) (Φ : Contract) (ops : Array Oper) (pm lk : List Nat) : Nat → List Oper → List (Nat × Hp) → List (Nat × Oper × Env × AV) → Env → Hp → (Env → Hp → Prop) → Prop
  | _, [], _, _, σ, H, K => K σ H
  | i, o :: rest, hs, ps, σ, H, K => gV P Φ ops o σ H fun v H' =>
    if opN o.op then opsD P Φ ops pm lk (i + 1) rest hs ps (upd σ o.dst v) H' K
    else if isL lk i o then H' = H ∧ (∀ h ∈ hs, behind pm i h.1 = false → again P Φ ops o σ v h.2) ∧ opsD P Φ ops pm lk (i + 1) rest hs ((i, o, σ, v) :: ps) (upd σ o.dst v) H' K
    else (∀ p ∈ ps, behind pm i p.1 = false → again P Φ ops p.2.1 p.2.2.1 p.2.2.2 H') ∧ opsD P Φ ops pm lk (i + 1) rest ((i, H) :: hs) ps (upd σ o.dst v) H' K

def vc (P : Program) (Φ : Contract) : Code → Env → Hp → (Ex → Env → Hp → Prop) → Prop
  | .skip, σ, H, K => K .normal σ H
  | .region _ ops false, σ, H, K => opsVC P Φ ops ops.toList σ H (K .normal)
  | .region _ ops true, σ, H, K => ∃ lk, regOK ops.toList lk = true ∧ opsD P Φ ops (preM ops.toList) lk 0 ops.toList [] [] σ H (K .normal)
  | .seq a b, σ, H, K => vc P Φ a σ H fun e σ' H' => match e with
    | .normal => vc P Φ b σ' H' K
    | e => K e σ' H'
  | .cond c x y, σ, H, K => match ev σ c with
    | .b t => (t = true → vc P Φ x σ H K) ∧ (t = false → vc P Φ y σ H K)
    | _ => False
  | .block id c, σ, H, K => vc P Φ c σ H fun e σ' H' => if e = .exit id then K .normal σ' H' else K e σ' H'
  | .loop c, σ, H, K => ∃ (I : Env → Hp → Nat → Prop), (∃ n, I σ H n) ∧ ∀ σ' H' n, I σ' H' n → vc P Φ c σ' H' fun e σ'' H'' => match e with
    | .normal => ∃ m, m < n ∧ I σ'' H'' m
    | e => K e σ'' H''
  | .exit id, σ, H, K => K (.exit id) σ H
  | .ret, σ, H, K => K .ret σ H
  | _, _, _, _ => False

def resOne (P : Program) (σ : Env) (H : Hp) : ResultVar → Option AV
  | .tmp t => some (σ t)
  | .cell a t => match σ a with
    | .p k o => load P H t k o
    | _ => none

def resAll (P : Program) (σ : Env) (H : Hp) : List ResultVar → Option (List AV)
  | [] => some []
  | r :: rest => match resOne P σ H r, resAll P σ H rest with
    | some v, some vs => some (v :: vs)
    | _, _ => none

def resVC (P : Program) (fn : Func) (σ : Env) (H : Hp) : Option AV :=
  match resAll P σ H fn.results.toList with
  | some [v] => some v
  | some vs => some (.tu vs)
  | none => none

def env0 (args : List AV) : Env := fun t => args.getD t .u

/-- The heap at the end, seen through names: what the callee made besides is forgotten. -/
def kept (n : Nat) (τ : List Nat) (G H' : Hp) : Prop := τ.take n = List.range n ∧ (H'.drop n).all (fun b => !b.ro || b.cells.isEmpty) = true ∧ fits τ G.length G H'

/-- What is to be shown of a function's body. -/
def bodyVC (P : Program) (Φ : Contract) (fn : Func) (args : List AV) (H : Hp) (r : AV) (H' : Hp) : Prop :=
  match fn.body with
  | some c => vc P Φ c (env0 args) H fun e σ G => (e = .ret ∨ e = .normal) ∧ ∃ τ, resVC P fn σ G = some (ren τ G.length r) ∧ kept H.length τ G H'
  | none => False

/-- Every place that is written lies among the function's. -/
def dstOK (n : Nat) : Code → Bool
  | .region _ ops _ => ops.toList.all fun o => match o.dst with
    | some d => decide (d < n)
    | none => true
  | .seq a b | .cond _ a b => dstOK n a && dstOK n b
  | .block _ c | .loop c => dstOK n c
  | _ => true

/-- What can be seen of a function at once. -/
def fnOK (fn : Func) (nargs : Nat) : Bool := (match fn.body with
  | some c => dstOK fn.ntmps c
  | none => false) && nargs.ble fn.ntmps && !(fn.name == "runtime.NumGoroutine")

end Go.Vc

/- Steps through the verification conditions, one operation each: every premise is closed by computing. -/
namespace Go.Vc
open Go
section
variable {P : Program} {Φ : Contract} {ops : Array Oper} {rest : List Oper} {σ : Env} {H : Hp} {K : Env → Hp → Prop} {d : Option Nat} {tp : TypeId} {pos : String} {af : Array Edge}

theorem s_nil (h : K σ H) : opsVC P Φ ops [] σ H K := h

theorem s_want {op : Op} {j e : Nat} {want : Bool} (hj : (ops[j]?).bind (·.dst) = some e) (hv : σ e = .b want)
    (h : opsVC P Φ ops (⟨d, op, tp, pos, af, none⟩ :: rest) σ H K) : opsVC P Φ ops (⟨d, op, tp, pos, af, some (j, want)⟩ :: rest) σ H K := by
  simp only [opsVC, guardVC, hj, hv] at h ⊢
  exact ⟨fun _ => h, fun k => by cases want <;> simp at k⟩

theorem s_skip {op : Op} {j e : Nat} {want : Bool} (hj : (ops[j]?).bind (·.dst) = some e) (hv : σ e = .b (!want))
    (h : opsVC P Φ ops rest (upd σ d .u) H K) : opsVC P Φ ops (⟨d, op, tp, pos, af, some (j, want)⟩ :: rest) σ H K := by
  simp only [opsVC, guardVC, hj, hv]
  exact ⟨fun k => by cases want <;> simp at k, fun _ => h⟩

theorem s_move {x : Operand} {v : AV} (hv : ev σ x = v) (h : opsVC P Φ ops rest (upd σ d v) H K) : opsVC P Φ ops (⟨d, .move x, tp, pos, af, none⟩ :: rest) σ H K := by
  subst hv; exact h
theorem s_assign {x : Operand} {v : AV} (hv : ev σ x = v) (h : opsVC P Φ ops rest (upd σ d v) H K) : opsVC P Φ ops (⟨d, .assign x, tp, pos, af, none⟩ :: rest) σ H K := by
  subst hv; exact h
theorem s_pick {c x y : Operand} {t : Bool} {v : AV} (hc : ev σ c = .b t) (hv : (if t then ev σ x else ev σ y) = v) (h : opsVC P Φ ops rest (upd σ d v) H K) :
    opsVC P Φ ops (⟨d, .pick c x y, tp, pos, af, none⟩ :: rest) σ H K := by
  subst hv; simp only [opsVC, guardVC, opVC, opV, hc]; exact h
theorem s_alloc {e : TypeId} {ti : TI} (ht : tof P e = some ti) {n : Nat} (hn : H.length = n) (h : opsVC P Φ ops rest (upd σ d (.p n 0)) (H ++ [⟨e, false, ti.zero⟩]) K) :
    opsVC P Φ ops (⟨d, .alloc e, tp, pos, af, none⟩ :: rest) σ H K := by
  subst hn; simp only [opsVC, guardVC, opVC, opV, ht]; exact h
theorem s_box {e : TypeId} {x : Operand} {cs : List AV} {ti : TI} (ht : tof P e = some ti) (hk : (ev σ x).known = true) (hx : (ev σ x).cells = cs) (hz : (cs.length == ti.size) = true) {n : Nat} (hn : H.length = n) (h : opsVC P Φ ops rest (upd σ d (.p n 0)) (H ++ [⟨e, false, cs⟩]) K) :
    opsVC P Φ ops (⟨d, .box e x, tp, pos, af, none⟩ :: rest) σ H K := by
  subst hn; subst hx; simp only [opsVC, guardVC, opVC, opV]
  exact ⟨hk, fun ti' h' => by rw [ht] at h'; cases h'; simpa using hz, h⟩
theorem s_build {t : TypeId} {parts : Array (Nat × Operand)} {ti : TI} {fs : List (Nat × TypeId)} {cs : List AV} (ht : tof P t = some ti) (hs : ti.shape = .struct fs)
    (hf : fillAV (ti.places[·]?) ti.zero (parts.toList.map fun q => (q.1, ev σ q.2)) = some cs) (h : opsVC P Φ ops rest (upd σ d (.ag cs)) H K) :
    opsVC P Φ ops (⟨d, .build t parts, tp, pos, af, none⟩ :: rest) σ H K := by
  simp only [opsVC, guardVC, opVC, opV, ht, hs, hf, Option.map_some]; exact h
theorem s_buildArr {t e : TypeId} {n : Nat} {parts : Array (Nat × Operand)} {ti ei : TI} {cs : List AV} (ht : tof P t = some ti) (hs : ti.shape = .array n e) (he : tof P e = some ei)
    (hf : fillAV (fun i => some (i * ei.size, ei.size)) ti.zero (parts.toList.map fun q => (q.1, ev σ q.2)) = some cs) (h : opsVC P Φ ops rest (upd σ d (.ag cs)) H K) :
    opsVC P Φ ops (⟨d, .build t parts, tp, pos, af, none⟩ :: rest) σ H K := by
  simp only [opsVC, guardVC, opVC, opV, ht, hs, he, hf, Option.map_some]; exact h
theorem s_buildSlice {t e : TypeId} {len : Nat} {parts : Array (Nat × Operand)} {ti ei : TI} {cs : List AV} (ht : tof P t = some ti) (hs : ti.shape = .slice e) (he : tof P e = some ei)
    (hf : fillAV (fun i => some (i * ei.size, ei.size)) (List.replicate (len * ei.size) .u) (parts.toList.map fun q => (q.1, ev σ q.2)) = some cs) (hl : ((len * ei.size).ble 16777216 && len.ble 16777216) = true) {n : Nat} (hn : H.length = n)
    (h : opsVC P Φ ops rest (upd σ d (.sl n 0 len .own)) (H ++ [⟨e, false, cs⟩]) K) :
    opsVC P Φ ops (⟨d, .buildSlice t len parts, tp, pos, af, none⟩ :: rest) σ H K := by
  subst hn; simp only [opsVC, guardVC, opVC, opV, ht, hs, he, hf]; 
  rw [Bool.and_eq_true] at hl; exact ⟨⟨Nat.le_of_ble_eq_true hl.1, Nat.le_of_ble_eq_true hl.2⟩, h⟩
theorem s_makeSlice {t e : TypeId} {l c : Operand} {ti ei : TI} {kk kk' : IntKind} {n : Int} (ht : tof P t = some ti) (hs : ti.shape = .slice e) (he : tof P e = some ei) (hl : ev σ l = .i kk n) (hc : ev σ c = .i kk' n) (hb : 0 ≤ n ∧ n ≤ 16777216 ∧ (ei.bytes : Int) * n ≤ 281474976710656)
    {k : Nat} (hn : H.length = k) (h : opsVC P Φ ops rest (upd σ d (.sl k 0 n.toNat .own)) (H ++ [⟨e, false, zeros n.toNat ei.zero⟩]) K) : opsVC P Φ ops (⟨d, .makeSlice t l c, tp, pos, af, none⟩ :: rest) σ H K := by
  subst hn; simp only [opsVC, guardVC, opVC, opV, ht, hs, he, hl, hc]; exact ⟨⟨trivial, hb⟩, h⟩
theorem s_load {t : TypeId} {x : Operand} {k o : Nat} {v : AV} (hx : ev σ x = .p k o) (hv : load P H t k o = some v) (h : opsVC P Φ ops rest (upd σ d v) H K) :
    opsVC P Φ ops (⟨d, .load t x, tp, pos, af, none⟩ :: rest) σ H K := by
  simp only [opsVC, guardVC, opVC, opV, hx, hv]; exact h
theorem s_store {t : TypeId} {x y : Operand} {k o : Nat} {H' : Hp} (hx : ev σ x = .p k o) (hv : store P H t k o (ev σ y) = some H') (h : opsVC P Φ ops rest (upd σ d .u) H' K) :
    opsVC P Φ ops (⟨d, .store t x y, tp, pos, af, none⟩ :: rest) σ H K := by
  simp only [opsVC, guardVC, opVC, opV, hx, hv]; exact h
theorem s_nilCheck {x : Operand} {k o : Nat} (hx : ev σ x = .p k o) (h : opsVC P Φ ops rest (upd σ d (.p k o)) H K) : opsVC P Φ ops (⟨d, .nilCheck x, tp, pos, af, none⟩ :: rest) σ H K := by
  simp only [opsVC, guardVC, opVC, opV, hx]; exact h
theorem s_bin {op : BinOp} {t ty : TypeId} {x y : Operand} {v : AV} (hv : bin op ((tof P t).map (·.shape)) (ev σ x) (ev σ y) = some v) (h : opsVC P Φ ops rest (upd σ d v) H K) :
    opsVC P Φ ops (⟨d, .binOp op t x y ty, tp, pos, af, none⟩ :: rest) σ H K := by
  simp only [opsVC, guardVC, opVC, opV, hv]; exact h
theorem s_binB {op : BinOp} {t ty : TypeId} {x y : Operand} {v : AV} {ti : TI} (ht : tof P t = some ti) (hv : bin op (some ti.shape) (ev σ x) (ev σ y) = some v) (h : opsVC P Φ ops rest (upd σ d v) H K) :
    opsVC P Φ ops (⟨d, .binOp op t x y ty, tp, pos, af, none⟩ :: rest) σ H K := s_bin (by rw [ht]; exact hv) h
theorem s_un {op : UnOp} {t : TypeId} {x : Operand} {v : AV} (hv : un op (ev σ x) = some v) (h : opsVC P Φ ops rest (upd σ d v) H K) :
    opsVC P Φ ops (⟨d, .unOp op t x, tp, pos, af, none⟩ :: rest) σ H K := by
  simp only [opsVC, guardVC, opVC, opV, hv]; exact h
theorem s_conv {s t : TypeId} {x : Operand} {si ti : TI} {v : AV} (hs : tof P s = some si) (ht : tof P t = some ti) (hv : conv si ti (ev σ x) = some v) (h : opsVC P Φ ops rest (upd σ d v) H K) :
    opsVC P Φ ops (⟨d, .convert s t x, tp, pos, af, none⟩ :: rest) σ H K := by
  simp only [opsVC, guardVC, opVC, opV, hs, ht, hv]; exact h
theorem s_fieldAddr {t : TypeId} {x : Operand} {j k o off ft : Nat} {ti fi : TI} {fs : List (Nat × TypeId)} (ht : tof P t = some ti) (hx : ev σ x = .p k o) (hs : ti.shape = .struct fs) (hf : fs[j]? = some (off, ft))
    (hi : tof P ft = some fi) (hz : (fi.size == 0) = false) {o' : Nat} (ho : o + off = o') (h : opsVC P Φ ops rest (upd σ d (.p k o')) H K) : opsVC P Φ ops (⟨d, .fieldAddr t x j, tp, pos, af, none⟩ :: rest) σ H K := by
  subst ho; simp only [opsVC, guardVC, opVC, opV, ht, hx, hs, hf, hi]; exact ⟨by simpa using hz, h⟩
theorem s_field {t : TypeId} {x : Operand} {j off ft : Nat} {ti fi : TI} {fs : List (Nat × TypeId)} {cs : List AV} {v : AV} (ht : tof P t = some ti) (hx : ev σ x = .ag cs) (hs : ti.shape = .struct fs) (hf : fs[j]? = some (off, ft))
    (hi : tof P ft = some fi) (hv : readAt cs off fi = some v) (h : opsVC P Φ ops rest (upd σ d v) H K) : opsVC P Φ ops (⟨d, .field t x j, tp, pos, af, none⟩ :: rest) σ H K := by
  simp only [opsVC, guardVC, opVC, opV, ht, hx, hs, hf, hi, hv]; exact h
theorem s_indexSl {t e : TypeId} {x ix : Operand} {k o n : Nat} {cap : Cap} {kk : IntKind} {j : Int} {ti ei : TI} (ht : tof P t = some ti) (hx : ev σ x = .sl k o n cap) (hi : ev σ ix = .i kk j)
    (hs : ti.shape = .slice e) (he : tof P e = some ei) (hb : 0 ≤ j ∧ j < n) {o' : Nat} (ho : o + j.toNat * ei.size = o') (h : opsVC P Φ ops rest (upd σ d (.p k o')) H K) :
    opsVC P Φ ops (⟨d, .indexAddr t x ix, tp, pos, af, none⟩ :: rest) σ H K := by
  subst ho; simp only [opsVC, guardVC, opVC, opV, ht, hx, hi, hs, he]; exact ⟨hb, h⟩
theorem s_indexArr {t e : TypeId} {x ix : Operand} {k o n : Nat} {kk : IntKind} {j : Int} {ti ei : TI} (ht : tof P t = some ti) (hx : ev σ x = .p k o) (hi : ev σ ix = .i kk j)
    (hs : ti.shape = .array n e) (he : tof P e = some ei) (hb : 0 ≤ j ∧ j < n) {o' : Nat} (ho : o + j.toNat * ei.size = o') (h : opsVC P Φ ops rest (upd σ d (.p k o')) H K) :
    opsVC P Φ ops (⟨d, .indexAddr t x ix, tp, pos, af, none⟩ :: rest) σ H K := by
  subst ho; simp only [opsVC, guardVC, opVC, opV, ht, hx, hi, hs, he]; exact ⟨hb, h⟩
theorem s_slice {t : TypeId} {x : Operand} {lo hi mx : Option Operand} {v : AV} (hv : sliceAV P t (ev σ x) (lo.map (ev σ)) (hi.map (ev σ)) (mx.map (ev σ)) = some v) (h : opsVC P Φ ops rest (upd σ d v) H K) :
    opsVC P Φ ops (⟨d, .slice t x lo hi mx, tp, pos, af, none⟩ :: rest) σ H K := by
  simp only [opsVC, guardVC, opVC, opV, hv]; exact h
theorem s_extract {x : Operand} {j : Nat} {vs : List AV} {v : AV} (hx : ev σ x = .tu vs) (hv : vs[j]? = some v) (h : opsVC P Φ ops rest (upd σ d v) H K) :
    opsVC P Φ ops (⟨d, .extract x j, tp, pos, af, none⟩ :: rest) σ H K := by
  simp only [opsVC, guardVC, opVC, opV, hx, hv]; exact h
theorem s_makeFunc {f : FuncId} {cap : Array Operand} {cs : List AV} (hc : cap.toList.map (ev σ) = cs) (h : opsVC P Φ ops rest (upd σ d (.fn f cs)) H K) :
    opsVC P Φ ops (⟨d, .makeFunc (.func f) #[] cap, tp, pos, af, none⟩ :: rest) σ H K := by
  subst hc; simp only [opsVC, guardVC, opVC, opV]; exact h
theorem s_real {as : Array Operand} {ts : Array TypeId} {v : AV} (hv : builtinAV .real (as.toList.map (ev σ)) = some v) (h : opsVC P Φ ops rest (upd σ d v) H K) :
    opsVC P Φ ops (⟨d, .call { callee := .builtin .real, args := as, argTypes := ts }, tp, pos, af, none⟩ :: rest) σ H K := by
  simp only [opsVC, guardVC, opVC, opV, hv]; exact h
theorem s_imag {as : Array Operand} {ts : Array TypeId} {v : AV} (hv : builtinAV .imag (as.toList.map (ev σ)) = some v) (h : opsVC P Φ ops rest (upd σ d v) H K) :
    opsVC P Φ ops (⟨d, .call { callee := .builtin .imag, args := as, argTypes := ts }, tp, pos, af, none⟩ :: rest) σ H K := by
  simp only [opsVC, guardVC, opVC, opV, hv]; exact h
theorem s_complex {as : Array Operand} {ts : Array TypeId} {v : AV} (hv : builtinAV .complex (as.toList.map (ev σ)) = some v) (h : opsVC P Φ ops rest (upd σ d v) H K) :
    opsVC P Φ ops (⟨d, .call { callee := .builtin .complex, args := as, argTypes := ts }, tp, pos, af, none⟩ :: rest) σ H K := by
  simp only [opsVC, guardVC, opVC, opV, hv]; exact h
theorem s_max {as : Array Operand} {ts : Array TypeId} {v : AV} (hv : builtinAV .max (as.toList.map (ev σ)) = some v) (h : opsVC P Φ ops rest (upd σ d v) H K) :
    opsVC P Φ ops (⟨d, .call { callee := .builtin .max, args := as, argTypes := ts }, tp, pos, af, none⟩ :: rest) σ H K := by
  simp only [opsVC, guardVC, opVC, opV, hv]; exact h
theorem s_len {x : Operand} {t : TypeId} {ti : TI} {v : AV} (ht : tof P t = some ti) (hv : lenAV ti.shape (ev σ x) = some v) (h : opsVC P Φ ops rest (upd σ d v) H K) :
    opsVC P Φ ops (⟨d, .call { callee := .builtin .len, args := #[x], argTypes := #[t] }, tp, pos, af, none⟩ :: rest) σ H K := by
  simp only [opsVC, guardVC, opVC, opV, ht, hv]; exact h
theorem s_append {s x : Operand} {t : TypeId} {v : AV} {H' : Hp} {by_ : Nat} (hv : appendAV P H t (ev σ s) (ev σ x) = some (v, H', by_)) (hb : by_ ≤ 140737488355328) (h : opsVC P Φ ops rest (upd σ d v) H' K) :
    opsVC P Φ ops (⟨d, .call { callee := .builtin .append, args := #[s, x], argTypes := #[t, t] }, tp, pos, af, none⟩ :: rest) σ H K := by
  simp only [opsVC, guardVC, opVC, opV, hv, if_true]; exact ⟨hb, h⟩
/-- A call over no block of the caller's: scalars, structs of scalars, strings. -/
theorem s_call {g : Operand} {as : Array Operand} {ts : Array TypeId} {f : FuncId} {cap args : List AV} (ρ : List Nat) {Hl Hl' : Hp} {la : List AV} {r r' : AV} {G : Hp} (hg : ev σ g = .fn f cap)
    (ha : as.toList.map (ev σ) ++ cap = args) (hc : Φ f la Hl r Hl') (hr : renL ρ H.length la = args) (hfit : fits ρ H.length H Hl) (hv : ren ρ H.length r = r') (hG : graft ρ H Hl Hl' = G)
    (h : opsVC P Φ ops rest (upd σ d r') G K) :
    opsVC P Φ ops (⟨d, .call { callee := .value g, args := as, argTypes := ts }, tp, pos, af, none⟩ :: rest) σ H K := by
  subst hv; subst hG
  simp only [opsVC, guardVC, opVC, opV, hg, ha]
  exact ⟨ρ, Hl, Hl', la, r, hc, hr, hfit, h⟩

end
section
variable {P : Program} {Φ : Contract} {σ : Env} {H : Hp} {K : Ex → Env → Hp → Prop}
theorem v_skip (h : K .normal σ H) : vc P Φ .skip σ H K := h
theorem v_region {id : Nat} {l : List Oper} (h : opsVC P Φ l.toArray l σ H (K .normal)) : vc P Φ (.region id l.toArray false) σ H K := by
  simpa [vc] using h
theorem v_regionD {id : Nat} {l : List Oper} (lk pm : List Nat) (hc : regOK l lk = true) (hp : preM l = pm) (h : opsD P Φ l.toArray pm lk 0 l [] [] σ H (K .normal)) : vc P Φ (.region id l.toArray true) σ H K := by
  subst hp
  unfold vc
  exact ⟨lk, hc, h⟩
theorem v_seq {a b : Code} (h : ∀ R : Ex → Env → Hp → Prop, (∀ σ' H', vc P Φ b σ' H' K → R .normal σ' H') → (∀ e σ' H', e ≠ .normal → K e σ' H' → R e σ' H') → vc P Φ a σ H R) : vc P Φ (.seq a b) σ H K := by
  simp only [vc]
  refine h _ (fun _ _ h => h) fun e _ _ hn h => ?_
  cases e <;> first | exact h | exact absurd rfl hn
theorem v_cond {c : Operand} {x y : Code} {t : Bool} (hc : ev σ c = .b t) (h1 : t = true → vc P Φ x σ H K) (h2 : t = false → vc P Φ y σ H K) : vc P Φ (.cond c x y) σ H K := by
  simp only [vc, hc]; exact ⟨h1, h2⟩
theorem v_true {c : Operand} {x y : Code} (hc : ev σ c = .b true) (h1 : vc P Φ x σ H K) : vc P Φ (.cond c x y) σ H K := v_cond hc (fun _ => h1) (fun h => by cases h)
theorem v_false {c : Operand} {x y : Code} (hc : ev σ c = .b false) (h1 : vc P Φ y σ H K) : vc P Φ (.cond c x y) σ H K := v_cond hc (fun h => by cases h) (fun _ => h1)
theorem v_block {id : Nat} {c : Code} (h : ∀ R : Ex → Env → Hp → Prop, (∀ σ' H', K .normal σ' H' → R .normal σ' H') → (∀ σ' H', K .normal σ' H' → R (.exit id) σ' H') →
    (∀ e σ' H', e ≠ .normal → e ≠ .exit id → K e σ' H' → R e σ' H') → vc P Φ c σ H R) : vc P Φ (.block id c) σ H K := by
  simp only [vc]
  refine h _ (fun _ _ h => ?_) (fun _ _ h => ?_) fun e _ _ _ h2 h => ?_
  · simpa using h
  · simpa using h
  · simpa [h2] using h
theorem v_exit {id : Nat} (h : K (.exit id) σ H) : vc P Φ (.exit id) σ H K := h
theorem v_ret (h : K .ret σ H) : vc P Φ .ret σ H K := h
theorem v_loop {c : Code} (I : Env → Hp → Nat → Prop) (n : Nat) (h0 : I σ H n)
    (h : ∀ σ' H' m, I σ' H' m → ∀ R : Ex → Env → Hp → Prop, (∀ σ'' H'' m', m' < m → I σ'' H'' m' → R .normal σ'' H'') → (∀ e σ'' H'', e ≠ .normal → K e σ'' H'' → R e σ'' H'') → vc P Φ c σ' H' R) :
    vc P Φ (.loop c) σ H K := by
  simp only [vc]
  refine ⟨I, ⟨n, h0⟩, fun σ' H' m hI => h σ' H' m hI _ (fun _ _ m' hm hI => ⟨m', hm, hI⟩) fun e _ _ hn h => ?_⟩
  cases e <;> first | exact h | exact absurd rfl hn
theorem body_intro {fn : Func} {c : Code} {args : List AV} {r : AV} {H' : Hp} (hb : fn.body = some c)
    (h : ∀ R : Ex → Env → Hp → Prop, (∀ σ G τ, resVC P fn σ G = some (ren τ G.length r) → kept H.length τ G H' → R .ret σ G ∧ R .normal σ G) → vc P Φ c (env0 args) H R) : bodyVC P Φ fn args H r H' := by
  simp only [bodyVC, hb]
  exact h _ fun σ G τ h1 h2 => ⟨⟨.inl rfl, τ, h1, h2⟩, ⟨.inr rfl, τ, h1, h2⟩⟩
end
end Go.Vc

/- What abstract values and heaps mean in the model; contracts. -/
namespace Go.Vc
open Go

structure Place where
  blk : Nat
  off : Nat
  sz : Nat

abbrev Map := Nat → Option Place

def Cap.fits (cap : Cap) (pl : Place) (o c : Nat) : Prop := match cap with
  | .ex m => c = m
  | .own => c = pl.sz ∧ o = 0 ∧ pl.off = 0
  | .any => True

mutual
/-- The abstract value stands for the model's value; β says where the abstract blocks lie. -/
inductive VR (β : Map) : AV → Value → Prop
  | u (v : Value) : VR β .u v
  | b (x : Bool) : VR β (.b x) (.bool x)
  | i (k : IntKind) (n : Int) : VR β (.i k n) (.int k n)
  | f (k : FloatKind) (x y : Nat) (h : canon k y = x) : VR β (.f k x) (.float k y)
  | c (k : FloatKind) (x y x' y' : Nat) (h : canon k x' = x) (h' : canon k y' = y) : VR β (.c k x y) (.complex k x' y')
  | s (x : ByteArray) : VR β (.s x) (.string x)
  | p (k o : Nat) (pl : Place) (h : β k = some pl) : VR β (.p k o) (.pointer (some ⟨pl.blk, pl.off + o, none⟩))
  | sl (k o n : Nat) (cap : Cap) (c : Nat) (pl : Place) (a : Nat) (h : β k = some pl) (hc : cap.fits pl o c) (hn : n ≤ c) (ha : a = pl.off + o ∨ (n = 0 ∧ cap = .any)) : VR β (.sl k o n cap) (.slice (some ⟨pl.blk, a, none⟩) n c)
  | np : VR β .np (.pointer none)
  | ns : VR β .ns (.slice none 0 0)
  | ag (xs : List AV) (cs : Array Value) (h : VRs β xs cs.toList) : VR β (.ag xs) (.agg cs)
  | tu (xs : List AV) (cs : Array Value) (h : VRs β xs cs.toList) : VR β (.tu xs) (.tuple cs)
  | fn (f : FuncId) (cap : List AV) (cs : Array Value) (h : VRs β cap cs.toList) : VR β (.fn f cap) (.func (.func f) #[] cs)
inductive VRs (β : Map) : List AV → List Value → Prop
  | nil : VRs β [] []
  | cons (x : AV) (v : Value) (xs : List AV) (vs : List Value) (h : VR β x v) (t : VRs β xs vs) : VRs β (x :: xs) (v :: vs)
end

mutual
theorem VR.mono {β β' : Map} (hb : ∀ k pl, β k = some pl → β' k = some pl) {x : AV} {v : Value} (h : VR β x v) : VR β' x v := by
  cases h with
  | u => exact .u _
  | b => exact .b _
  | i => exact .i _ _
  | f k x y h => exact .f _ _ _ h
  | c k x y x' y' h h' => exact .c _ _ _ _ _ h h'
  | s => exact .s _
  | p k o pl h => exact .p _ _ _ (hb _ _ h)
  | sl k o n cap c pl a h hc hn ha => exact .sl _ _ _ _ _ _ _ (hb _ _ h) hc hn ha
  | np => exact .np
  | ns => exact .ns
  | ag xs cs h => exact .ag _ _ (h.mono hb)
  | tu xs cs h => exact .tu _ _ (h.mono hb)
  | fn f cap cs h => exact .fn _ _ _ (h.mono hb)
theorem VRs.mono {β β' : Map} (hb : ∀ k pl, β k = some pl → β' k = some pl) {x : List AV} {v : List Value} (h : VRs β x v) : VRs β' x v := by
  cases h with
  | nil => exact .nil
  | cons x v xs vs h t => exact .cons _ _ _ _ (h.mono hb) (t.mono hb)
end

theorem VRs.length {β : Map} {xs : List AV} {vs : List Value} (h : VRs β xs vs) : xs.length = vs.length := by
  induction xs generalizing vs with
  | nil => cases h; rfl
  | cons x xs ih => cases h with | cons _ v _ vs h t => simp [ih t]

theorem VRs.get {β : Map} {xs : List AV} {vs : List Value} (h : VRs β xs vs) {i : Nat} {x : AV} (hx : xs[i]? = some x) : ∃ v, vs[i]? = some v ∧ VR β x v := by
  induction xs generalizing vs i with
  | nil => simp at hx
  | cons y ys ih =>
    cases h with
    | cons _ v _ vs h t =>
      cases i with
      | zero => simp at hx; subst hx; exact ⟨v, by simp, h⟩
      | succ i => simp at hx; obtain ⟨w, hw, hr⟩ := ih t hx; exact ⟨w, by simpa using hw, hr⟩

theorem VRs.of_get {β : Map} {xs : List AV} {vs : List Value} (hl : xs.length = vs.length) (h : ∀ (i : Nat) (x : AV) (v : Value), xs[i]? = some x → vs[i]? = some v → VR β x v) : VRs β xs vs := by
  induction xs generalizing vs with
  | nil => cases vs with | nil => exact .nil | cons => simp at hl
  | cons x xs ih =>
    cases vs with
    | nil => simp at hl
    | cons v vs => exact .cons _ _ _ _ (h 0 x v (by simp) (by simp)) (ih (by simpa using hl) fun i y u h1 h2 => h (i + 1) y u (by simpa using h1) (by simpa using h2))

theorem VRs.append {β : Map} {xs ys : List AV} {vs us : List Value} (h : VRs β xs vs) (h' : VRs β ys us) : VRs β (xs ++ ys) (vs ++ us) := by
  induction xs generalizing vs with
  | nil => cases h; simpa using h'
  | cons x xs ih => cases h with | cons _ v _ vs h t => exact .cons _ _ _ _ h (ih t)

/-- A block's meaning: its cells read so; one that may be written is a block of its own. -/
structure BR (P : Program) (β : Map) (w : World) (pl : Place) (bl : Blk) : Prop where
  cells : ∀ (i : Nat) (x : AV), bl.cells[i]? = some x → ∃ v, w.cell? ⟨pl.blk, pl.off + i, none⟩ = some v ∧ VR β x v
  lt : pl.blk < w.heap.size
  own : bl.ro = false → pl.off = 0 ∧ ∃ cs : Array Value, w.heap[pl.blk]? = some (.cells cs bl.ty (0, 0)) ∧ bl.cells.length ≤ cs.size ∧ (∀ ti, tof P bl.ty = some ti → cs.size = pl.sz * ti.size) ∧ pl.sz ≤ maxLen

structure HR (P : Program) (β : Map) (H : Hp) (w : World) : Prop where
  dom : ∀ k, H.length ≤ k → β k = none
  at_ : ∀ (k : Nat) (bl : Blk), H[k]? = some bl → ∃ pl, β k = some pl ∧ BR P β w pl bl
  sep : ∀ (k k' : Nat) (bl bl' : Blk) (pl pl' : Place), H[k]? = some bl → H[k']? = some bl' → k ≠ k' → bl.ro = false → (bl'.ro = false ∨ bl'.cells ≠ []) → β k = some pl → β k' = some pl' → pl.blk ≠ pl'.blk

/-- The world is another one in its count of draws alone. -/
structure Same (w w' : World) : Prop where
  heap : w'.heap = w.heap
  os : w'.os = w.os
  tape : w'.tape = w.tape
  output : w'.output = w.output

theorem Same.refl (w : World) : Same w w := ⟨rfl, rfl, rfl, rfl⟩
theorem Same.trans {a b c : World} (h : Same a b) (k : Same b c) : Same a c := ⟨k.heap.trans h.heap, k.os.trans h.os, k.tape.trans h.tape, k.output.trans h.output⟩

theorem cell_of_heap {w w' : World} {a : Addr} (h : w'.heap[a.block]? = w.heap[a.block]?) : w'.cell? a = w.cell? a := by
  simp only [World.cell?, h]

theorem BR.of_block {P : Program} {β β' : Map} {w w' : World} {pl : Place} {bl : Blk} (h : BR P β w pl bl) (hb : ∀ k pl, β k = some pl → β' k = some pl) (hh : w'.heap[pl.blk]? = w.heap[pl.blk]?) (hs : w.heap.size ≤ w'.heap.size) : BR P β' w' pl bl := by
  refine ⟨fun i x hx => ?_, Nat.lt_of_lt_of_le h.lt hs, fun hr => ?_⟩
  · obtain ⟨v, hv, hr⟩ := h.cells i x hx
    exact ⟨v, by rw [cell_of_heap (w := w) (by exact hh)]; exact hv, hr.mono hb⟩
  · obtain ⟨h0, cs, hc, h1, h2⟩ := h.own hr
    exact ⟨h0, cs, by rw [hh]; exact hc, h1, h2⟩

theorem HR.same {P : Program} {β : Map} {H : Hp} {w w' : World} (h : HR P β H w) (hs : Same w w') : HR P β H w' := by
  refine ⟨h.dom, fun k bl hk => ?_, h.sep⟩
  obtain ⟨pl, h1, h2⟩ := h.at_ k bl hk
  exact ⟨pl, h1, h2.of_block (fun _ _ h => h) (by rw [hs.heap]) (by rw [hs.heap]; exact Nat.le_refl _)⟩

theorem HR.lt {P : Program} {β : Map} {H : Hp} {w : World} (h : HR P β H w) {k : Nat} {pl : Place} (hk : β k = some pl) : k < H.length := by
  rcases Nat.lt_or_ge k H.length with h' | h'
  · exact h'
  · rw [h.dom k h'] at hk; cases hk

/-- What may have changed: blocks that were there and are not said to change are as they were. -/
structure Fr (w w' : World) (ch : Nat → Prop) : Prop where
  os : w'.os = w.os
  tape : w'.tape = w.tape
  output : w'.output = w.output
  size : w.heap.size ≤ w'.heap.size
  block : ∀ b, b < w.heap.size → ¬ ch b → w'.heap[b]? = w.heap[b]?

theorem Fr.refl (w : World) (ch : Nat → Prop) : Fr w w ch := ⟨rfl, rfl, rfl, Nat.le_refl _, fun _ _ _ => rfl⟩
theorem Fr.same {w w' : World} {ch : Nat → Prop} (h : Same w w') : Fr w w' ch := ⟨h.os, h.tape, h.output, by rw [h.heap]; exact Nat.le_refl _, fun _ _ _ => by rw [h.heap]⟩

/-- The blocks of the model that a heap lets be written. -/
def wr (β : Map) (H : Hp) (b : Nat) : Prop := ∃ k bl pl, H[k]? = some bl ∧ bl.ro = false ∧ β k = some pl ∧ pl.blk = b

/-- A function is called: one with a body is entered, one of the model's own answers at once. -/
def Invokes (P : Program) (f : FuncId) (vs : Array Value) (w : World) (R : Ending → World → Prop) : Prop :=
  match (callFunc f vs).run P w with
  | .ok (.enter g us) w' => Calls P g us w' R
  | .ok (.value v) w' => R (.returned v) w'
  | _ => False

/-- What a call behind its arguments owes. -/
def Post (P : Program) (β : Map) (H : Hp) (w : World) (r : AV) (H' : Hp) (e : Ending) (w' : World) : Prop :=
  ∃ (β' : Map) (v : Value), e = .returned v ∧ (∀ k, k < H.length → β' k = β k) ∧ HR P β' H' w' ∧ VR β' r v ∧ Fr w w' (wr β H) ∧
      (∀ b, wr β' H' b → wr β H b ∨ w.heap.size ≤ b) ∧ (∀ (k : Nat) (bl : Blk), H.length ≤ k → H'[k]? = some bl → bl.ro = false ∨ bl.cells = []) ∧ H.length ≤ H'.length

/-- THE CONTRACT: called with what stands for these arguments, over a world in which these blocks lie, the function returns what stands for that, and behind it the blocks read so; nothing else that was there has changed. -/
def CallsTo (P : Program) : Contract := fun f args H r H' =>
  ∀ (β : Map) (w : World) (vs : Array Value), HR P β H w → VRs β args vs.toList → Invokes P f vs w (Post P β H w r H')

/-- The same of a function that has a body. -/
def BodyTo (P : Program) : Contract := fun f args H r H' =>
  ∀ (β : Map) (w : World) (vs : Array Value), HR P β H w → VRs β args vs.toList → Calls P f vs w (Post P β H w r H')

theorem BodyTo.calls {P : Program} {f : FuncId} {fn : Func} {c : Code} {args : List AV} {H : Hp} {r : AV} {H' : Hp} (h : BodyTo P f args H r H') (hf : P.funcs[f]? = some fn) (hname : (fn.name == "runtime.NumGoroutine") = false) (hb : fn.body = some c) : CallsTo P f args H r H' := by
  intro β w vs hH hv
  have h1 : fn.name ≠ "runtime.NumGoroutine" := by simpa using hname
  have : (callFunc f vs).run P w = .ok (.enter f vs) w := by simp [callFunc, hf, h1, hb]
  unfold Invokes
  rw [this]
  exact h β w vs hH hv

end Go.Vc

/- Floats modulo the payload of a NaN: the operations do not see it. -/
namespace Go.Vc
open Go

/-- The same datum, or two NaNs. -/
def Eqv (d e : Ieee.Datum) : Prop := d = e ∨ (d.isNaN = true ∧ e.isNaN = true)

theorem qnan_nan (k : FloatKind) : (k.decode (qnan k)).isNaN = true := by cases k <;> decide +kernel

theorem canon_eqv (k : FloatKind) (x : Nat) : Eqv (k.decode (canon k x)) (k.decode x) := by
  unfold canon
  split
  · exact .inr ⟨qnan_nan k, by assumption⟩
  · exact .inl rfl

theorem canon_of_not {k : FloatKind} {x : Nat} (h : (k.decode x).isNaN = false) : canon k x = x := by
  unfold canon; rw [if_neg (by rw [h]; exact Bool.false_ne_true)]
theorem canon_of_nan {k : FloatKind} {x : Nat} (h : (k.decode x).isNaN = true) : canon k x = qnan k := by
  unfold canon; rw [if_pos h]
theorem canon_canon (k : FloatKind) (x : Nat) : canon k (canon k x) = canon k x := by
  rcases h : (k.decode x).isNaN with _ | _
  · rw [canon_of_not h, canon_of_not h]
  · rw [canon_of_nan h, canon_of_nan (qnan_nan k)]
theorem canon_qnan (k : FloatKind) : canon k (qnan k) = qnan k := canon_of_nan (qnan_nan k)

theorem nan_iff {k : FloatKind} {x y : Nat} (h : canon k y = x) : (k.decode x).isNaN = (k.decode y).isNaN := by
  subst h
  rcases h : (k.decode y).isNaN with _ | _
  · rw [canon_of_not h, h]
  · rw [canon_of_nan h]; exact qnan_nan k

theorem eqv_of {k : FloatKind} {x y : Nat} (h : canon k y = x) : Eqv (k.decode x) (k.decode y) := by subst h; exact canon_eqv k y

namespace Eqv
theorem sum {d d' e e' : Ieee.Datum} (h : Eqv d d') (h' : Eqv e e') : d.sum e = d'.sum e' := by
  rcases h with rfl | ⟨h1, h2⟩
  · rcases h' with rfl | ⟨h3, h4⟩
    · rfl
    · cases e <;> simp [Ieee.Datum.isNaN] at h3
      cases e' <;> simp [Ieee.Datum.isNaN] at h4
      cases d <;> rfl
  · cases d <;> simp [Ieee.Datum.isNaN] at h1
    cases d' <;> simp [Ieee.Datum.isNaN] at h2
    rfl
theorem product {d d' e e' : Ieee.Datum} (h : Eqv d d') (h' : Eqv e e') : d.product e = d'.product e' := by
  rcases h with rfl | ⟨h1, h2⟩
  · rcases h' with rfl | ⟨h3, h4⟩
    · rfl
    · cases e <;> simp [Ieee.Datum.isNaN] at h3
      cases e' <;> simp [Ieee.Datum.isNaN] at h4
      cases d <;> rfl
  · cases d <;> simp [Ieee.Datum.isNaN] at h1
    cases d' <;> simp [Ieee.Datum.isNaN] at h2
    rfl
theorem quotient {n : Nat} {d d' e e' : Ieee.Datum} (h : Eqv d d') (h' : Eqv e e') : d.quotient n e = d'.quotient n e' := by
  rcases h with rfl | ⟨h1, h2⟩
  · rcases h' with rfl | ⟨h3, h4⟩
    · rfl
    · cases e <;> simp [Ieee.Datum.isNaN] at h3
      cases e' <;> simp [Ieee.Datum.isNaN] at h4
      cases d <;> rfl
  · cases d <;> simp [Ieee.Datum.isNaN] at h1
    cases d' <;> simp [Ieee.Datum.isNaN] at h2
    rfl
theorem order {d d' e e' : Ieee.Datum} (h : Eqv d d') (h' : Eqv e e') : d.order e = d'.order e' := by
  rcases h with rfl | ⟨h1, h2⟩
  · rcases h' with rfl | ⟨h3, h4⟩
    · rfl
    · cases e <;> simp [Ieee.Datum.isNaN] at h3
      cases e' <;> simp [Ieee.Datum.isNaN] at h4
      cases d <;> rfl
  · cases d <;> simp [Ieee.Datum.isNaN] at h1
    cases d' <;> simp [Ieee.Datum.isNaN] at h2
    rfl
theorem opposite {d d' : Ieee.Datum} (h : Eqv d d') : Eqv d.opposite d'.opposite := by
  rcases h with rfl | ⟨h1, h2⟩
  · exact .inl rfl
  · cases d <;> simp [Ieee.Datum.isNaN] at h1
    cases d' <;> simp [Ieee.Datum.isNaN] at h2
    exact .inr ⟨rfl, rfl⟩
end Eqv

theorem order_canon {k : FloatKind} {x y x' y' : Nat} (h : canon k x' = x) (h' : canon k y' = y) : k.format.order x' y' = k.format.order x y := by
  have := (eqv_of h).order (eqv_of h')
  exact this.symm

theorem floatBits_canon {op : BinOp} {k : FloatKind} {x y x' y' : Nat} (h : canon k x' = x) (h' : canon k y' = y) : floatBits op k x' y' = floatBits op k x y := by
  have e1 := eqv_of h
  have e2 := eqv_of h'
  unfold floatBits
  cases op <;> try rfl
  · show (((k.decode x').sum (k.decode y')).map k.format.write) = _
    rw [← e1.sum e2]; rfl
  · show (((k.decode x').sum (k.decode y').opposite).map k.format.write) = _
    rw [← e1.sum e2.opposite]; rfl
  · show (((k.decode x').product (k.decode y')).map k.format.write) = _
    rw [← e1.product e2]; rfl
  · show (((k.decode x').quotient _ (k.decode y')).map k.format.write) = _
    rw [← e1.quotient e2]; rfl

theorem sum_notNaN {d e r : Ieee.Datum} (h : d.sum e = some r) : r.isNaN = false := by
  cases d <;> cases e <;> simp [Ieee.Datum.sum] at h <;> (try (obtain ⟨_, rfl⟩ := h; rfl)) <;> (try (subst h; rfl))
theorem product_notNaN {d e r : Ieee.Datum} (h : d.product e = some r) : r.isNaN = false := by
  cases d <;> cases e <;> simp [Ieee.Datum.product] at h <;> (try (obtain ⟨_, rfl⟩ := h; rfl)) <;> (try (subst h; rfl))
theorem quotient_notNaN {n : Nat} {d e r : Ieee.Datum} (h : d.quotient n e = some r) : r.isNaN = false := by
  cases d with
  | nan => cases e <;> simp [Ieee.Datum.quotient] at h
  | infinity s => cases e <;> simp [Ieee.Datum.quotient] at h; subst h; rfl
  | number s m i =>
    cases e with
    | nan => simp [Ieee.Datum.quotient] at h
    | infinity t => simp [Ieee.Datum.quotient] at h; subst h; rfl
    | number t n' j =>
      unfold Ieee.Datum.quotient at h
      dsimp only at h
      split at h
      · split at h
        · cases h
        · cases h; rfl
      · cases h; rfl

theorem read_word_notNaN (f : Ieee.Format) (neg : Bool) {rung : Nat} (h : rung ≤ f.infRung) : (f.read (f.word neg rung)).isNaN = false := by
  have hlt := f.infRung_lt
  have hr : f.word neg rung % f.signWeight = rung := by
    unfold Ieee.Format.word
    split
    · rw [Nat.add_mod_left, Nat.mod_eq_of_lt (by omega)]
    · exact Nat.mod_eq_of_lt (by omega)
  unfold Ieee.Format.read
  dsimp only
  rw [hr]
  split
  · rfl
  · split
    · rfl
    · split
      · rfl
      · omega

theorem write_notNaN (f : Ieee.Format) {d : Ieee.Datum} (h : d.isNaN = false) : (f.read (f.write d)).isNaN = false := by
  cases d with
  | nan => simp [Ieee.Datum.isNaN] at h
  | infinity s => exact read_word_notNaN f s (Nat.le_refl _)
  | number s m i =>
    show (f.read (f.nearest s m i)).isNaN = false
    unfold Ieee.Format.nearest
    dsimp only
    split
    · exact read_word_notNaN f s (Nat.zero_le _)
    · exact read_word_notNaN f s (Nat.min_le_right _ _)

theorem encode_notNaN (k : FloatKind) {d : Ieee.Datum} (h : d.isNaN = false) : (k.decode (k.encode d)).isNaN = false := write_notNaN k.format h

theorem floatBits_notNaN {op : BinOp} {k : FloatKind} {x y r : Nat} (h : floatBits op k x y = some r) : (k.decode r).isNaN = false := by
  unfold floatBits at h
  split at h
  · obtain ⟨d, hd, rfl⟩ := Option.map_eq_some_iff.1 h; exact write_notNaN _ (sum_notNaN hd)
  · obtain ⟨d, hd, rfl⟩ := Option.map_eq_some_iff.1 h; exact write_notNaN _ (sum_notNaN hd)
  · obtain ⟨d, hd, rfl⟩ := Option.map_eq_some_iff.1 h; exact write_notNaN _ (product_notNaN hd)
  · obtain ⟨d, hd, rfl⟩ := Option.map_eq_some_iff.1 h; exact write_notNaN _ (quotient_notNaN hd)
  · cases h

theorem canon_fbin (op : BinOp) (k : FloatKind) (x y : Nat) : canon k (fbin op k x y) = fbin op k x y := by
  unfold fbin
  cases h : floatBits op k x y with
  | none => exact canon_qnan k
  | some r => exact canon_of_not (floatBits_notNaN h)

theorem negFloat_nan (k : FloatKind) (x : Nat) : (k.decode (Op.negFloat k x)).isNaN = (k.decode x).isNaN := by
  have hr : (Op.negFloat k x) % k.format.signWeight = x % k.format.signWeight := by
    unfold Op.negFloat Ieee.Format.signWeight
    rw [Nat.xor_mod_two_pow]
    simp
  unfold FloatKind.decode Ieee.Format.read
  dsimp only
  rw [hr]
  split
  · rfl
  · split
    · rfl
    · split <;> rfl

theorem canon_fneg {k : FloatKind} {x y : Nat} (h : canon k y = x) : canon k (Op.negFloat k y) = fneg k x := by
  unfold fneg
  rw [nan_iff h]
  rcases hn : (k.decode y).isNaN with _ | _
  · rw [if_neg (by simp)]
    rw [canon_of_not (by rw [negFloat_nan]; exact hn)]
    rw [canon_of_not hn] at h; rw [h]
  · rw [if_pos rfl]
    exact canon_of_nan (by rw [negFloat_nan]; exact hn)

theorem read_nan (f : Ieee.Format) {x : Nat} (hb : f.binade ≤ f.infRung) (h : f.infRung < x % f.signWeight) : (f.read x).isNaN = true := by
  unfold Ieee.Format.read
  dsimp only
  rw [if_neg (by omega), if_neg (by omega), if_neg (by omega)]
  rfl
theorem cut_nan32 (t : Nat) : (FloatKind.f32.decode ((t % 2) * 2 ^ 31 + 0x7f800000 + 1 + (t / 2) % (2 ^ 23 - 1))).isNaN = true := by
  refine read_nan _ (by decide +kernel) ?_
  show 2139095040 < ((t % 2) * 2147483648 + 2139095040 + 1 + (t / 2) % 8388607) % 2147483648
  rw [show (t % 2) * 2147483648 + 2139095040 + 1 + (t / 2) % 8388607 = 2147483648 * (t % 2) + (2139095041 + (t / 2) % 8388607) from by omega, Nat.mul_add_mod, Nat.mod_eq_of_lt (by omega)]
  omega
theorem cut_nan64 (t : Nat) : (FloatKind.f64.decode ((t % 2) * 2 ^ 63 + 0x7ff0000000000000 + 1 + (t / 2) % (2 ^ 52 - 1))).isNaN = true := by
  refine read_nan _ (by decide +kernel) ?_
  show 9218868437227405312 < ((t % 2) * 9223372036854775808 + 9218868437227405312 + 1 + (t / 2) % 4503599627370495) % 9223372036854775808
  rw [show (t % 2) * 9223372036854775808 + 9218868437227405312 + 1 + (t / 2) % 4503599627370495 = 9223372036854775808 * (t % 2) + (9218868437227405313 + (t / 2) % 4503599627370495) from by omega, Nat.mul_add_mod, Nat.mod_eq_of_lt (by omega)]
  omega

theorem cut_nanBits (k : FloatKind) (x y t : Nat) : (k.decode ((Question.nanBits k x y).cut t)).isNaN = true := by
  cases k
  · exact cut_nan32 t
  · exact cut_nan64 t
theorem cut_nanConv (k : FloatKind) (x t : Nat) : (k.decode ((Question.nanConv k x).cut t)).isNaN = true := by
  cases k
  · exact cut_nan32 t
  · exact cut_nan64 t
theorem cut_nanMinMax (k : FloatKind) (m : Bool) (x y t : Nat) : (k.decode ((Question.nanMinMax k m x y).cut t)).isNaN = true := by
  cases k
  · exact cut_nan32 t
  · exact cut_nan64 t

section
variable {P : Program} (w : World)
/-- '+ - * /': whatever the tape says of a NaN's bits. -/
theorem run_floatArith (op : BinOp) (hop : op = .add ∨ op = .sub ∨ op = .mul ∨ op = .quo) (k : FloatKind) {x y x' y' : Nat} (h : canon k x' = x) (h' : canon k y' = y) :
    ∃ r w', (Op.floatArith op k x' y').run P w = .ok (.float k r) w' ∧ Same w w' ∧ canon k r = fbin op k x y := by
  have e := floatBits_canon (op := op) h h'
  have key : ∀ z : Option Nat, z = floatBits op k x' y' → ∃ r w', ((match z with | some r => pure (.float k r) | none => do pure (.float k (← choose (.nanBits k x' y'))) : Sem Value)).run P w = .ok (.float k r) w' ∧ Same w w' ∧ canon k r = fbin op k x y := by
    intro z hz
    cases z with
    | some r =>
      refine ⟨r, w, rfl, .refl w, ?_⟩
      rw [canon_of_not (floatBits_notNaN hz.symm)]
      unfold fbin; rw [← e, ← hz]; rfl
    | none =>
      refine ⟨(Question.nanBits k x' y').cut (w.tape w.drawn (.nanBits k x' y')), w.drew, by simp [Question.forced], ⟨rfl, rfl, rfl, rfl⟩, ?_⟩
      rw [canon_of_nan (cut_nanBits k x' y' _)]
      unfold fbin; rw [← e, ← hz]; rfl
  rcases hop with rfl | rfl | rfl | rfl
  all_goals exact key _ rfl
end
end Go.Vc

/- Each operation does in the model what its condition says. -/
namespace Go.Vc
open Go

variable {P : Program}

/-- A computation that hands back what stands for 'x', and leaves the world as it was but for draws. -/
def Val (P : Program) (β : Map) (x : AV) (s : Sem Value) (w : World) : Prop := ∃ v w', s.run P w = .ok v w' ∧ Same w w' ∧ VR β x v

theorem Val.pure {β : Map} {x : AV} {v : Value} {w : World} (h : VR β x v) : Val P β x (Pure.pure v) w := ⟨v, w, rfl, .refl w, h⟩
theorem Val.of_run {β : Map} {x : AV} {v : Value} {w : World} {s : Sem Value} (hs : s.run P w = .ok v w) (h : VR β x v) : Val P β x s w := ⟨v, w, hs, .refl w, h⟩

theorem VR.cells {β : Map} {x : AV} {v : Value} (h : VR β x v) (hu : x ≠ .u) : VRs β x.cells v.cells.toList := by
  cases h with
  | u => exact absurd rfl hu
  | ag xs cs h => simpa [AV.cells, Value.cells] using h
  | _ => simp only [AV.cells, Value.cells]; refine .cons _ _ _ _ ?_ .nil; constructor <;> assumption

theorem sound_intBin {β : Map} {op : BinOp} {t : TypeId} {k : IntKind} {a b : Int} {x : AV} (w : World) (h : intBin op k a b = some x) : Val P β x (binOp op t (.int k a) (.int k b)) w := by
  cases op <;> simp only [intBin, Option.some.injEq, reduceCtorEq] at h
  case add | sub | mul => subst h; exact .of_run (by simp [binOp, Op.intArith]) (.i _ _)
  case quo | rem =>
    split at h
    · cases h
    · rename_i hb; cases h; exact .of_run (by simp [binOp, Op.intDiv, hb]) (.i _ _)
  case and | or | xor | andNot => subst h; exact .of_run (by simp [binOp, Op.intBits]) (.i _ _)
  case eql => subst h; exact .of_run (v := .bool (a == b)) (by simp [binOp, Op.intCmp]) (by rw [show (a == b) = decide (a = b) from rfl]; exact .b _)
  case neq => subst h; exact .of_run (v := .bool (a != b)) (by simp [binOp, Op.intCmp]) (by rw [show (a != b) = !decide (a = b) from rfl]; exact .b _)
  case lss | leq | gtr | geq => subst h; exact .of_run (by simp [binOp, Op.intCmp]) (.b _)

theorem sound_flBin {β : Map} {op : BinOp} {t : TypeId} {k : FloatKind} {a b a' b' : Nat} {x : AV} (w : World) (ha : canon k a' = a) (hb : canon k b' = b)
    (h : (match op with | .add | .sub | .mul | .quo => some (.f k (fbin op k a b)) | _ => (flCmp op k a b).map .b) = some x) : Val P β x (binOp op t (.float k a') (.float k b')) w := by
  have ho := order_canon ha hb
  have ar : ∀ op : BinOp, (op = .add ∨ op = .sub ∨ op = .mul ∨ op = .quo) → x = .f k (fbin op k a b) → Val P β x (Op.floatArith op k a' b') w := by
    intro op hop hx
    obtain ⟨r, w', h1, h2, h3⟩ := run_floatArith (P := P) w op hop k ha hb
    exact ⟨_, w', h1, h2, by rw [hx]; exact .f _ _ _ h3⟩
  cases op <;> simp only [flCmp, Option.some.injEq, Option.map_some, Option.map_none, reduceCtorEq] at h
  case add => rw [show binOp .add t (.float k a') (.float k b') = Op.floatArith .add k a' b' from by simp [binOp]]; exact ar _ (by simp) h.symm
  case sub => rw [show binOp .sub t (.float k a') (.float k b') = Op.floatArith .sub k a' b' from by simp [binOp]]; exact ar _ (by simp) h.symm
  case mul => rw [show binOp .mul t (.float k a') (.float k b') = Op.floatArith .mul k a' b' from by simp [binOp]]; exact ar _ (by simp) h.symm
  case quo => rw [show binOp .quo t (.float k a') (.float k b') = Op.floatArith .quo k a' b' from by simp [binOp]]; exact ar _ (by simp) h.symm
  all_goals subst h; rw [← ho]; exact .of_run (by simp [binOp, Op.floatCmp]) (.b _)

theorem sound_cAdd {β : Map} {op : BinOp} (hop : op = .add ∨ op = .sub) {t : TypeId} {k : FloatKind} {a b c d a' b' c' d' : Nat} (w : World) (ha : canon k a' = a) (hb : canon k b' = b) (hc : canon k c' = c) (hd : canon k d' = d) :
    Val P β (.c k (fbin op k a c) (fbin op k b d)) (binOp op t (.complex k a' b') (.complex k c' d')) w := by
  obtain ⟨r, w1, h1, h2, h3⟩ := run_floatArith (P := P) w op (by rcases hop with h | h <;> simp [h]) k ha hc
  obtain ⟨s, w2, h4, h5, h6⟩ := run_floatArith (P := P) w1 op (by rcases hop with h | h <;> simp [h]) k hb hd
  refine ⟨.complex k r s, w2, ?_, h2.trans h5, .c _ _ _ _ _ h3 h6⟩
  rcases hop with rfl | rfl <;> simp [binOp, Op.complexOp, Op.Complex.arith, h1, h4]

theorem sound_bin {β : Map} {op : BinOp} {t : TypeId} {x y z : AV} {v u : Value} (w : World) (hx : VR β x v) (hy : VR β y u) (h : bin op ((tof P t).map (·.shape)) x y = some z) : Val P β z (binOp op t v u) w := by
  cases hx <;> cases hy <;> simp only [bin, reduceCtorEq] at h
  case b.b a b =>
    split at h
    · rename_i hs
      have hu : P.underlying t = some .bool := by
        unfold tof at hs
        cases h1 : P.info? t with
        | none => simp [h1] at hs
        | some i =>
          cases h2 : P.underlying t with
          | none => simp [h1, h2] at hs
          | some d =>
            cases h3 : i.zero with
            | none => simp [h1, h2, h3] at hs
            | some z =>
              cases h4 : placesOf P d with
              | none => simp [h1, h2, h3, h4] at hs
              | some ps => simp [h1, h2, h3, h4] at hs; obtain ⟨-, hs⟩ := hs; cases d <;> simp [shapeOf] at hs; rfl
      cases op <;> simp only [Option.some.injEq, reduceCtorEq] at h
      · subst h; exact .of_run (run_eql_bool w t a b hu) (.b _)
      · subst h; exact .of_run (run_neq_bool w t a b hu) (.b _)
    · cases h
  case i.i k n k' n' =>
    split at h
    · rename_i hop
      split at h
      · rename_i hb
        cases h
        have hb' : ¬ n' < 0 := by omega
        rcases hop with rfl | rfl
        · exact .of_run (by simp [binOp, Op.shift, hb']) (.i _ _)
        · exact .of_run (by simp [binOp, Op.shift, hb']) (.i _ _)
      · cases h
    · split at h
      · rename_i e; subst e; exact sound_intBin w h
      · cases h
  case f.f k a a' ha k' b b' hb =>
    split at h
    · rename_i e; subst e; exact sound_flBin w ha hb h
    · cases h
  case c.c k a b a' b' ha hb k' c d c' d' hc hd =>
    split at h
    · rename_i e; subst e
      cases op <;> simp only [Option.some.injEq, reduceCtorEq] at h
      · subst h; exact sound_cAdd (by simp) w ha hb hc hd
      · subst h; exact sound_cAdd (by simp) w ha hb hc hd
      · subst h; rw [← order_canon ha hc, ← order_canon hb hd]; exact .of_run (run_eql_complex w t k a' b' c' d') (.b _)
      · subst h; rw [← order_canon ha hc, ← order_canon hb hd]; exact .of_run (run_neq_complex w t k a' b' c' d') (.b _)
    · cases h
  case s.s a b =>
    cases op <;> simp only [Option.some.injEq, reduceCtorEq] at h
    · split at h
      · rename_i hs
        cases h
        refine .of_run (v := .string (a ++ b)) ?_ (.s _)
        have hm : IntKind.i64.max = 9223372036854775807 := rfl
        have : ¬ ((a.size + b.size : Nat) : Int) > IntKind.i64.max := by rw [hm]; omega
        simp only [binOp_string_add, Op.stringOp]
        rw [if_neg this]; rfl
      · cases h
    · subst h; exact .of_run (v := .bool (a.toList == b.toList)) (by rw [binOp_string_eql]; rfl) (.b _)
    · subst h; exact .of_run (v := .bool !(a.toList == b.toList)) (by rw [binOp_string_neq]; rfl) (.b _)

theorem sound_un {β : Map} {op : UnOp} {x z : AV} {v : Value} (w : World) (hx : VR β x v) (h : un op x = some z) : Val P β z (Op.unary op v) w := by
  cases hx <;> cases op <;> simp only [un, Option.some.injEq, reduceCtorEq] at h
  · subst h; exact .of_run rfl (.b _)
  · subst h; exact .of_run (by simp [Op.unary, Op.intArith]) (.i _ _)
  · rename_i k a a' ha; subst h; exact .of_run rfl (.f _ _ _ (canon_fneg ha))
  · rename_i k a b a' b' ha hb; subst h; exact .of_run rfl (.c _ _ _ _ _ (canon_fneg ha) (canon_fneg hb))

/-! ### types -/
structure TOf (P : Program) (t : TypeId) (ti : TI) (i : TypeInfo) (d : TypeDesc) (z : Value) : Prop where
  info : P.info? t = some i
  under : P.underlying t = some d
  zero : i.zero = some z
  size : i.size = ti.size
  bytes : i.bytes = ti.bytes
  cells : z.cells.toList.map ofCell = ti.zero
  shape : shapeOf d = ti.shape
  zsize : z.cells.size = ti.size
  places : placesOf P d = some ti.places

theorem tof_spec {t : TypeId} {ti : TI} (h : tof P t = some ti) : ∃ i d z, TOf P t ti i d z := by
  unfold tof at h
  cases h1 : P.info? t with
  | none => simp [h1] at h
  | some i =>
    cases h2 : P.underlying t with
    | none => simp [h1, h2] at h
    | some d =>
      cases h3 : i.zero with
      | none => simp [h1, h2, h3] at h
      | some z =>
        cases h4 : placesOf P d with
        | none => simp [h1, h2, h3, h4] at h
        | some ps => simp [h1, h2, h3, h4] at h; obtain ⟨hz, rfl⟩ := h; exact ⟨i, d, z, h1, h2, h3, rfl, rfl, rfl, rfl, hz, h4⟩

theorem run_typeInfo' {t : TypeId} {i : TypeInfo} (w : World) (h : P.info? t = some i) : (typeInfo t).run P w = .ok i w := by simp [typeInfo, h]
theorem run_sizeOf' {t : TypeId} {i : TypeInfo} (w : World) (h : P.info? t = some i) : (sizeOf t).run P w = .ok i.size w := by simp [sizeOf, typeInfo, h]
theorem run_isAgg' {t : TypeId} {d : TypeDesc} (w : World) (h : P.underlying t = some d) : (isAgg t).run P w = .ok (shapeOf d).agg w := by
  simp only [isAgg, Sem.run_bind, run_underlying h, Result.andThen_ok]
  cases d <;> rfl

theorem shape_int {d : TypeDesc} {k : IntKind} (h : shapeOf d = .int k) : d = .int k := by cases d <;> simp [shapeOf] at h; subst h; rfl
theorem shape_float {d : TypeDesc} {k : FloatKind} (h : shapeOf d = .float k) : d = .float k := by cases d <;> simp [shapeOf] at h; subst h; rfl
theorem shape_complex {d : TypeDesc} {k : FloatKind} (h : shapeOf d = .complex k) : d = .complex k := by cases d <;> simp [shapeOf] at h; subst h; rfl
theorem shape_string {d : TypeDesc} (h : shapeOf d = .string) : d = .string := by cases d <;> simp [shapeOf] at h; rfl
theorem shape_slice {d : TypeDesc} {e : TypeId} (h : shapeOf d = .slice e) : d = .slice e := by cases d <;> simp [shapeOf] at h; subst h; rfl
theorem shape_array {d : TypeDesc} {n : Nat} {e : TypeId} (h : shapeOf d = .array n e) : d = .array n e := by cases d <;> simp [shapeOf] at h; obtain ⟨rfl, rfl⟩ := h; rfl
theorem shape_struct {d : TypeDesc} {fs : List (Nat × TypeId)} (h : shapeOf d = .struct fs) : ∃ f, d = .struct f ∧ f.toList.map (fun f => (f.offset, f.type)) = fs := by
  cases d <;> simp [shapeOf] at h; exact ⟨_, rfl, h⟩

theorem canon_encode (k : FloatKind) {d : Ieee.Datum} (h : d.isNaN = false) : canon k (k.encode d) = k.encode d := canon_of_not (encode_notNaN k h)

theorem sound_conv {β : Map} {s t : TypeId} {si ti : TI} {x z : AV} {v : Value} (w : World) (hs : tof P s = some si) (ht : tof P t = some ti) (hx : VR β x v) (h : conv si ti x = some z) : Val P β z (convert s t v) w := by
  obtain ⟨is, ds, zs, hS⟩ := tof_spec hs
  obtain ⟨it, dt, zt, hT⟩ := tof_spec ht
  have hsh := hT.shape
  unfold conv at h
  split at h
  · rename_i k _ n e
    rw [e] at hsh; cases hx
    have hd := shape_int hsh; subst hd
    cases h
    refine .of_run ?_ (.i _ _)
    cases ds <;> simp [convert, run_underlying hS.under, run_underlying hT.under, Conv.intToInt]
  · rename_i k _ n e
    rw [e] at hsh; cases hx
    have hd := shape_float hsh; subst hd
    cases h
    refine .of_run (run_convert_int_float w s t _ k n (by rw [hS.under]; rfl) hT.under) (.f _ _ _ ?_)
    exact canon_encode k (d := .number (n < 0) n.natAbs 0) rfl
  · rename_i k s' a e
    rw [e] at hsh
    cases hx with
    | f _ _ y hy =>
    have hd := shape_int hsh; subst hd
    obtain ⟨n, hn, rfl⟩ := Option.map_eq_some_iff.1 h
    refine .of_run (run_convert_float_int w s t s' k y n (by rw [hS.under]; rfl) hT.under ?_) (.i _ _)
    have hnn : (s'.decode a).isNaN = false := by
      cases hh : (s'.decode a) with
      | nan s'' t'' => simp [floatToIntVal, hh, Ieee.Datum.toInt, Ieee.Datum.integral] at hn
      | _ => rfl
    rw [canon_of_not (by rw [← nan_iff hy]; exact hnn)] at hy
    rw [hy]; exact hn
  · rename_i k s' a e
    rw [e] at hsh
    cases hx with
    | f _ _ y hy =>
    have hd := shape_float hsh; subst hd
    split at h
    · rename_i ek; subst ek; cases h
      exact .of_run (run_convert_float_float w s t s' s' y y (by rw [hS.under]; rfl) hT.under (by simp [floatToFloatBits])) (.f _ _ _ hy)
    · rename_i ne
      split at h
      · rename_i hn
        cases h
        rw [nan_iff hy] at hn
        cases hdec : s'.decode y with
        | nan b f =>
          refine ⟨.float k ((Question.nanConv k y).cut (w.tape w.drawn (.nanConv k y))), w.drew, ?_, ⟨rfl, rfl, rfl, rfl⟩, .f _ _ _ (canon_of_nan (cut_nanConv k y _))⟩
          cases ds <;> simp [convert, run_underlying hS.under, run_underlying hT.under, Conv.floatToFloat, ne, hdec, Question.forced]
        | _ => rw [hdec] at hn; cases hn
      · rename_i hn
        obtain ⟨r, hr, rfl⟩ := Option.map_eq_some_iff.1 h
        have hn' : (s'.decode a).isNaN = false := by simpa using hn
        rw [canon_of_not (by rw [← nan_iff hy]; exact hn')] at hy
        subst hy
        refine .of_run (run_convert_float_float w s t s' k y r (by rw [hS.under]; rfl) hT.under hr) (.f _ _ _ ?_)
        unfold floatToFloatBits at hr
        rw [if_neg ne] at hr
        split at hr
        · cases hr
        · rename_i sg _; cases hr; exact canon_encode k (d := .infinity sg) rfl
        · rename_i sg m e' _
          split at hr
          · cases hr
          · cases hr; exact canon_encode k (d := .number sg m e') rfl
  · rename_i k s' a b e
    rw [e] at hsh
    cases hx with
    | c _ _ _ a' b' ha hb =>
    have hd := shape_complex hsh; subst hd
    split at h
    · rename_i ek; subst ek; cases h
      refine .of_run (v := .complex s' a' b') ?_ (.c _ _ _ _ _ ha hb)
      cases ds <;> simp [convert, run_underlying hS.under, run_underlying hT.under, Conv.complexToComplex, Conv.floatToFloat]
    · cases h
  · rename_i a e
    rw [e] at hsh; cases hx
    have hd := shape_string hsh; subst hd
    cases h
    refine .of_run ?_ (.s _)
    cases ds <;> simp [convert, run_underlying hS.under, run_underlying hT.under]
  · cases h

end Go.Vc

/- Memory: loads, stores, new blocks. -/
namespace Go.Vc
open Go

variable {P : Program}

theorem add_eq (b o i : Nat) : (Addr.add ⟨b, o, none⟩ i) = ⟨b, o + i, none⟩ := by
  unfold Addr.add
  split
  · rename_i h; subst h; rfl
  · rfl

/-- The cells of a stretch of a block. -/
theorem BR.stretch {β : Map} {w : World} {pl : Place} {bl : Blk} (h : BR P β w pl bl) (o : Nat) : ∀ n, o + n ≤ bl.cells.length →
    ∃ vs : List Value, VRs β ((bl.cells.drop o).take n) vs ∧ vs.length = n ∧ ∀ j v, vs[j]? = some v → w.cell? ⟨pl.blk, pl.off + o + j, none⟩ = some v
  | 0, _ => ⟨[], by simpa using VRs.nil, rfl, fun j v hj => by simp at hj⟩
  | n + 1, hn => by
    obtain ⟨vs, h1, h2, h3⟩ := BR.stretch h o n (by omega)
    have hx : bl.cells[o + n]? = some bl.cells[o + n] := List.getElem?_eq_getElem (by omega)
    obtain ⟨v, hv, hr⟩ := h.cells _ _ hx
    refine ⟨vs ++ [v], ?_, by simp [h2], fun j u hj => ?_⟩
    · have e : (bl.cells.drop o).take (n + 1) = (bl.cells.drop o).take n ++ [bl.cells[o + n]] := by
        rw [List.take_succ_eq_append_getElem (by simp; omega)]; simp
      rw [e]
      exact h1.append (.cons _ _ _ _ hr .nil)
    · rcases Nat.lt_or_ge j n with hlt | hge
      · rw [List.getElem?_append_left (by omega)] at hj; exact h3 j u hj
      · have : j = n := by
          have := (List.getElem?_eq_some_iff.1 hj).1; simp [h2] at this; omega
        subst this
        rw [List.getElem?_append_right (by omega)] at hj
        simp [h2] at hj; subst hj
        rw [Nat.add_assoc]; exact hv

theorem load_run {β : Map} {H : Hp} {w : World} {t : TypeId} {k o : Nat} {x : AV} {pl : Place} (hH : HR P β H w) (hk : β k = some pl) (h : load P H t k o = some x) :
    ∃ v, (loadVar t ⟨pl.blk, pl.off + o, none⟩).run P w = .ok v w ∧ VR β x v := by
  unfold load at h
  split at h
  · rename_i ti bl ht hb
    obtain ⟨i, d, z, hT⟩ := tof_spec ht
    obtain ⟨pl', hp, hB⟩ := hH.at_ k bl hb
    rw [hk] at hp; cases hp
    unfold readAt at h
    have ha := run_isAgg' w hT.under
    rw [hT.shape] at ha
    split at h
    · rename_i hagg
      rw [hagg] at ha
      split at h
      · rename_i hle
        cases h
        obtain ⟨vs, h1, h2, h3⟩ := hB.stretch o ti.size hle
        refine ⟨.agg vs.toArray, ?_, .ag _ _ (by simpa using h1)⟩
        have hl := run_loadCells_list (P := P) w ⟨pl.blk, pl.off + o, none⟩ vs fun j v hj => by rw [add_eq]; exact h3 j v hj
        simp only [loadVar, Sem.run_bind, ha, Result.andThen_ok, if_true, run_sizeOf' w hT.info, hT.size, ← h2, hl, Sem.run_pure]
      · cases h
    · rename_i hagg
      rw [Bool.not_eq_true] at hagg
      rw [hagg] at ha
      obtain ⟨v, hv, hr⟩ := hB.cells o x h
      refine ⟨v, ?_, hr⟩
      simp [loadVar, ha, hv]
  · cases h

theorem sound_load {β : Map} {H : Hp} {w : World} {t : TypeId} {k o : Nat} {x : AV} {pl : Place} (hH : HR P β H w) (hk : β k = some pl) (h : load P H t k o = some x) :
    Val P β x (loadVar t ⟨pl.blk, pl.off + o, none⟩) w := by
  obtain ⟨v, h1, h2⟩ := load_run hH hk h
  exact .of_run h1 h2

theorem VR.oneCell {β : Map} {x : AV} {v : Value} (h : VR β x v) (hx : x.isCell = true) : v.oneCell' = true := by
  cases h <;> first | rfl | cases hx

theorem VRs.oneCell {β : Map} {xs : List AV} {vs : List Value} (h : VRs β xs vs) (hx : xs.all AV.isCell = true) : ∀ v ∈ vs, v.oneCell' = true := by
  induction xs generalizing vs with
  | nil => cases h; simp
  | cons x xs ih =>
    cases h with
    | cons _ v _ vs h t =>
      simp only [List.all_cons, Bool.and_eq_true] at hx
      intro u hu
      cases hu with
      | head => exact h.oneCell hx.1
      | tail _ hu => exact ih t hx.2 u hu

/-- Stores, one after another, into a row. -/
theorem run_storeCells' (b off : Nat) (t : TypeId) : ∀ (vs : List Value) (i : Nat) (w : World) (cs : Array Value), w.heap[b]? = some (.cells cs t (0, 0)) → off + i + vs.length ≤ cs.size → (∀ v ∈ vs, v.oneCell' = true) →
    ∃ (w' : World) (cs' : Array Value), (storeCells ⟨b, off, none⟩ vs i).run P w = .ok () w' ∧ w'.heap[b]? = some (.cells cs' t (0, 0)) ∧ cs'.size = cs.size ∧
      (∀ j : Nat, cs'[j]? = if off + i ≤ j ∧ j < off + i + vs.length then vs[j - (off + i)]? else cs[j]?) ∧
      (∀ b', b' ≠ b → w'.heap[b']? = w.heap[b']?) ∧ w'.heap.size = w.heap.size ∧ w'.os = w.os ∧ w'.tape = w.tape ∧ w'.output = w.output
  | [], i, w, cs, hb, _, _ => ⟨w, cs, rfl, hb, rfl, fun j => by rw [if_neg (by simp only [List.length_nil]; omega)], fun _ _ => rfl, rfl, rfl, rfl, rfl⟩
  | v :: vs, i, w, cs, hb, hl, h1 => by
    simp only [List.length_cons] at hl
    have hlt : off + i < cs.size := by omega
    have hc : w.cell? ⟨b, off + i, none⟩ = some cs[off + i] := by simp [World.cell?, hb, hlt]
    have hf : w.frozen? ⟨b, off + i, none⟩ = false := by simp [World.frozen?, hb]
    have hs : (w.setCell ⟨b, off + i, none⟩ v).heap[b]? = some (.cells (cs.setIfInBounds (off + i) v) t (0, 0)) := by
      simp [World.setCell, Array.getElem?_modify, hb]
    obtain ⟨w', cs', r1, r2, r3, r4, r5, r6, r7, r8, r9⟩ := run_storeCells' b off t vs (i + 1) (w.setCell ⟨b, off + i, none⟩ v) (cs.setIfInBounds (off + i) v) hs (by simp; omega) (fun u hu => h1 u (List.mem_cons_of_mem _ hu))
    refine ⟨w', cs', ?_, r2, by rw [r3]; simp, fun j => ?_, fun b' hb' => ?_, by rw [r6]; simp, by rw [r7]; rfl, by rw [r8]; rfl, by rw [r9]; rfl⟩
    · simp only [storeCells, Sem.run_bind, add_eq, run_store P w _ v _ (h1 v (List.mem_cons_self ..)), hc, hf, Bool.false_eq_true, if_false, Result.andThen_ok, r1]
    · rw [r4 j]
      by_cases hj : j = off + i
      · subst hj
        rw [if_neg (by omega), if_pos (by simp only [List.length_cons]; omega)]
        simp [hlt]
      · by_cases hin : off + (i + 1) ≤ j ∧ j < off + (i + 1) + vs.length
        · rw [if_pos hin, if_pos (by simp only [List.length_cons]; omega)]
          rw [show j - (off + i) = (j - (off + (i + 1))) + 1 from by omega]
          simp
        · rw [if_neg hin, if_neg (by simp only [List.length_cons]; omega)]
          rw [Array.getElem?_setIfInBounds_ne (by omega)]
    · rw [r5 b' hb']
      simp only [World.setCell, Array.getElem?_modify]
      rw [if_neg (by exact fun e => hb' e.symm)]

end Go.Vc

/- The state of a walk, and what each step does to it. -/
namespace Go.Vc
open Go

variable {P : Program}

/-- Where a call began. -/
structure Entry where
  β : Map
  H : Hp
  w : World

structure RS (P : Program) (n : Nat) (E : Entry) (β : Map) (σ : Env) (H : Hp) (a : Act) (w : World) : Prop where
  size : a.tmps.size = n
  defers : a.defers = []
  tmp : ∀ t, VR β (σ t) (a.tmps.getD t undef)
  heap : HR P β H w
  keep : ∀ k, k < E.H.length → β k = E.β k
  len : E.H.length ≤ H.length
  fr : Fr E.w w (wr E.β E.H)
  wrt : ∀ b, wr β H b → wr E.β E.H b ∨ E.w.heap.size ≤ b

theorem RS.same {n : Nat} {E : Entry} {β : Map} {σ : Env} {H : Hp} {a : Act} {w w' : World} (h : RS P n E β σ H a w) (hs : Same w w') : RS P n E β σ H a w' :=
  ⟨h.size, h.defers, h.tmp, h.heap.same hs, h.keep, h.len, ⟨hs.os.trans h.fr.os, hs.tape.trans h.fr.tape, hs.output.trans h.fr.output, by rw [hs.heap]; exact h.fr.size, fun b hb hc => by rw [hs.heap]; exact h.fr.block b hb hc⟩, h.wrt⟩

theorem getD_set (ts : Array Value) (d t : Nat) (v : Value) (hd : d < ts.size) : (ts.setIfInBounds d v).getD t undef = if t = d then v else ts.getD t undef := by
  simp only [Array.getD_eq_getD_getElem?, Array.getElem?_setIfInBounds]
  by_cases h : d = t
  · subst h; simp [hd]
  · simp [h, Ne.symm h]

theorem RS.put {n : Nat} {E : Entry} {β : Map} {σ : Env} {H : Hp} {a : Act} {w : World} (h : RS P n E β σ H a w) {d : Option Nat} (hd : ∀ k, d = some k → k < n) {x : AV} {v : Value} (hv : VR β x v) :
    RS P n E β (upd σ d x) H (a.put d v) w := by
  cases d with
  | none =>
    have : upd σ none x = σ := by funext t; simp [upd]
    rw [this]; exact h
  | some k =>
    refine ⟨by simp [Act.put, h.size], h.defers, fun t => ?_, h.heap, h.keep, h.len, h.fr, h.wrt⟩
    show VR β (if some t = some k then x else σ t) ((a.tmps.setIfInBounds k v).getD t undef)
    rw [getD_set _ _ _ _ (by rw [h.size]; exact hd k rfl)]
    by_cases e : t = k
    · subst e; rw [if_pos rfl, if_pos rfl]; exact hv
    · rw [if_neg (by simpa using e), if_neg e]; exact h.tmp t

theorem ofCell_VR (β : Map) (v : Value) : VR β (ofCell v) v := by
  cases v with
  | bool => exact .b _
  | int => exact .i _ _
  | float k b => exact .f _ _ _ rfl
  | complex k a b => exact .c _ _ _ _ _ rfl rfl
  | string => exact .s _
  | pointer a => cases a with
    | none => exact .np
    | some => exact .u _
  | slice a n c => cases a with
    | none =>
      show VR β (if n = 0 ∧ c = 0 then .ns else .u) _
      by_cases h : n = 0 ∧ c = 0
      · rw [if_pos h]; obtain ⟨rfl, rfl⟩ := h; exact .ns
      · rw [if_neg h]; exact .u _
    | some => exact .u _
  | func fn a b => cases fn with
    | func f =>
      show VR β (if a.size = 0 ∧ b.size = 0 then .fn f [] else .u) _
      by_cases h : a.size = 0 ∧ b.size = 0
      · rw [if_pos h]
        have ha : a = #[] := Array.eq_empty_of_size_eq_zero h.1
        have hb : b = #[] := Array.eq_empty_of_size_eq_zero h.2
        subst ha; subst hb; exact .fn _ _ _ .nil
      · rw [if_neg h]; exact .u _
    | _ => exact .u _
  | _ => exact .u _

theorem ofCells_VRs (β : Map) : ∀ vs : List Value, VRs β (vs.map ofCell) vs
  | [] => .nil
  | v :: vs => .cons _ _ _ _ (ofCell_VR β v) (ofCells_VRs β vs)

theorem ofVal_VR (β : Map) (v : Value) : VR β (ofVal v) v := by
  cases v with
  | agg cs => exact .ag _ _ (ofCells_VRs β _)
  | _ => simp only [ofVal]; exact ofCell_VR β _

theorem RS.ev {n : Nat} {E : Entry} {β : Map} {σ : Env} {H : Hp} {a : Act} {w : World} (h : RS P n E β σ H a w) (x : Operand) : VR β (Vc.ev σ x) (a.eval x) := by
  cases x with
  | tmp t => exact h.tmp t
  | const v => exact ofVal_VR β v
  | global => exact .u _
  | func f => exact .fn _ _ _ .nil

theorem RS.evs {n : Nat} {E : Entry} {β : Map} {σ : Env} {H : Hp} {a : Act} {w : World} (h : RS P n E β σ H a w) : ∀ xs : List Operand, VRs β (xs.map (Vc.ev σ)) (xs.map a.eval)
  | [] => .nil
  | x :: xs => .cons _ _ _ _ (h.ev x) (h.evs xs)

/-- The new block's place. -/
def at_ (β : Map) (n : Nat) (pl : Place) : Map := fun k => if k = n then some pl else β k

theorem at_ext {β : Map} {H : Hp} {w : World} (h : HR P β H w) (pl : Place) : ∀ k p, β k = some p → at_ β H.length pl k = some p := by
  intro k p hk
  have := h.lt hk
  unfold at_; rw [if_neg (by omega)]; exact hk

theorem heap_push (w : World) (o : Obj) (b : Nat) : (w.alloc o).heap[b]? = if b = w.heap.size then some o else w.heap[b]? := by
  show (w.heap.push o)[b]? = _
  rw [Array.getElem?_push]

theorem RS.alloc {n : Nat} {E : Entry} {β : Map} {σ : Env} {H : Hp} {a : Act} {w : World} (h : RS P n E β σ H a w) {e : TypeId} {xs : List AV} {cs : Array Value} (hv : ∀ (i : Nat) (x : AV), xs[i]? = some x → ∃ v, cs[i]? = some v ∧ VR β x v) (hvl : xs.length ≤ cs.size) {m : Nat}
    (hm : ∀ ti, tof P e = some ti → cs.size = m * ti.size) (hmax : m ≤ maxLen) :
    RS P n E (at_ β H.length ⟨w.heap.size, 0, m⟩) σ (H ++ [⟨e, false, xs⟩]) a (w.alloc (.cells cs e)) := by
  have hx := at_ext h.heap ⟨w.heap.size, 0, m⟩
  have hplt : ∀ k pl bl, H[k]? = some bl → β k = some pl → pl.blk < w.heap.size := fun k pl bl hk hp => by
    obtain ⟨pl', h1, h2⟩ := h.heap.at_ k bl hk
    rw [hp] at h1; cases h1; exact h2.lt
  have hnew : at_ β H.length ⟨w.heap.size, 0, m⟩ H.length = some ⟨w.heap.size, 0, m⟩ := by simp [at_]
  have hlk : ∀ k bl, (H ++ [(⟨e, false, xs⟩ : Blk)])[k]? = some bl → (k < H.length ∧ H[k]? = some bl) ∨ (k = H.length ∧ bl = ⟨e, false, xs⟩) := by
    intro k bl hk
    rcases Nat.lt_or_ge k H.length with hlt | hge
    · rw [List.getElem?_append_left hlt] at hk; exact .inl ⟨hlt, hk⟩
    · rw [List.getElem?_append_right hge] at hk
      rcases Nat.eq_or_lt_of_le hge with heq | hgt
      · rw [heq] at hk ⊢; simp at hk; exact .inr ⟨rfl, hk.symm⟩
      · rw [List.getElem?_eq_none (by simp; omega)] at hk; cases hk
  have hold : ∀ k, k < H.length → at_ β H.length ⟨w.heap.size, 0, m⟩ k = β k := fun k hk => by unfold at_; rw [if_neg (by omega)]
  refine ⟨h.size, h.defers, fun t => (h.tmp t).mono hx, ⟨fun k hk => ?_, fun k bl hk => ?_, fun k k' bl bl' pl pl' hk hk' hne hr hr' hp hp' => ?_⟩, fun k hk => ?_, ?_, ?_, fun b hb => ?_⟩
  · simp at hk; unfold at_; rw [if_neg (by omega)]; exact h.heap.dom k (by omega)
  · rcases hlk k bl hk with ⟨hlt, hk⟩ | ⟨rfl, rfl⟩
    · obtain ⟨pl, h1, h2⟩ := h.heap.at_ k bl hk
      refine ⟨pl, by rw [hold k hlt]; exact h1, h2.of_block hx ?_ (by simp)⟩
      rw [heap_push, if_neg (Nat.ne_of_lt h2.lt)]
    · refine ⟨_, hnew, ⟨fun i x hi => ?_, by simp, fun _ => ⟨rfl, cs, by rw [heap_push, if_pos rfl], hvl, hm, hmax⟩⟩⟩
      · obtain ⟨v, hv1, hv2⟩ := hv i x hi
        refine ⟨v, ?_, hv2.mono hx⟩
        rw [Nat.zero_add, World.cell?_alloc_new]; exact hv1
  · rcases hlk k bl hk with ⟨hlt, hk⟩ | ⟨rfl, rfl⟩
    · rcases hlk k' bl' hk' with ⟨hlt', hk'⟩ | ⟨rfl, rfl⟩
      · rw [hold k hlt] at hp; rw [hold k' hlt'] at hp'
        exact h.heap.sep k k' bl bl' pl pl' hk hk' hne hr hr' hp hp'
      · rw [hold k hlt] at hp; rw [hnew] at hp'; cases hp'
        exact Nat.ne_of_lt (hplt k pl bl hk hp)
    · rcases hlk k' bl' hk' with ⟨hlt', hk'⟩ | ⟨rfl, rfl⟩
      · rw [hold k' hlt'] at hp'; rw [hnew] at hp; cases hp
        exact Nat.ne_of_gt (hplt k' pl' bl' hk' hp')
      · exact absurd rfl hne
  · rw [hold k (Nat.lt_of_lt_of_le hk h.len)]; exact h.keep k hk
  · simp; have := h.len; omega
  · refine ⟨h.fr.os, h.fr.tape, h.fr.output, by simp; have := h.fr.size; omega, fun b hb hc => ?_⟩
    have := h.fr.size
    rw [heap_push, if_neg (by omega)]; exact h.fr.block b hb hc
  · obtain ⟨k, bl, pl, hk, hr, hp, rfl⟩ := hb
    rcases hlk k bl hk with ⟨hlt, hk⟩ | ⟨rfl, rfl⟩
    · rw [hold k hlt] at hp; exact h.wrt _ ⟨k, bl, pl, hk, hr, hp, rfl⟩
    · rw [hnew] at hp; cases hp; exact .inr h.fr.size

theorem set_get {H : Hp} {k j : Nat} {bl b : Blk} (h : (H.set k bl)[j]? = some b) : (j = k ∧ b = bl ∧ k < H.length) ∨ (j ≠ k ∧ H[j]? = some b) := by
  rw [List.getElem?_set] at h
  split at h
  · rename_i e; subst e
    split at h
    · rename_i hl; cases h; exact .inl ⟨rfl, rfl, hl⟩
    · cases h
  · rename_i e; exact .inr ⟨fun e' => e e'.symm, h⟩

theorem splice_length {cs : List AV} {o : Nat} {new : List AV} (h : o + new.length ≤ cs.length) : (splice cs o new).length = cs.length := by
  simp [splice]; omega

theorem splice_get {cs : List AV} {o : Nat} {new : List AV} (h : o + new.length ≤ cs.length) (j : Nat) : (splice cs o new)[j]? = if o ≤ j ∧ j < o + new.length then new[j - o]? else cs[j]? := by
  unfold splice
  by_cases h1 : j < o
  · rw [if_neg (by omega), List.append_assoc, List.getElem?_append_left (by simp; omega)]; simp [h1]
  · by_cases h2 : j < o + new.length
    · rw [if_pos (by omega), List.append_assoc, List.getElem?_append_right (by simp; omega), List.getElem?_append_left (by simp; omega)]
      congr 1; simp; omega
    · rw [if_neg (by omega), List.getElem?_append_right (by simp; omega)]
      simp only [List.length_append, List.length_take, List.getElem?_drop]
      congr 1; omega

/-- Behind a store into a block that may be written. -/
theorem RS.stored {n : Nat} {E : Entry} {β : Map} {σ : Env} {H : Hp} {a : Act} {w w' : World} (h : RS P n E β σ H a w) {k : Nat} {pl : Place} {bl : Blk} (hb : H[k]? = some bl) (hr : bl.ro = false) (hp : β k = some pl) {cells : List AV} {cs' : Array Value} (hh : w'.heap[pl.blk]? = some (.cells cs' bl.ty (0, 0))) (hsz : (∀ ti, tof P bl.ty = some ti → cs'.size = pl.sz * ti.size) ∧ pl.sz ≤ maxLen) (hle : cells.length ≤ cs'.size)
    (hc : ∀ (i : Nat) (x : AV), cells[i]? = some x → ∃ v, cs'[i]? = some v ∧ VR β x v)
    (hoth : ∀ b', b' ≠ pl.blk → w'.heap[b']? = w.heap[b']?) (hs : w'.heap.size = w.heap.size) (ho : w'.os = w.os) (ht : w'.tape = w.tape) (hu : w'.output = w.output) :
    RS P n E β σ (H.set k { bl with cells := cells }) a w' := by
  have hB : BR P β w pl bl := by obtain ⟨pl', h1, h2⟩ := h.heap.at_ k bl hb; rw [hp] at h1; cases h1; exact h2
  obtain ⟨hoff, -⟩ := hB.own hr
  have hw : wr β H pl.blk := ⟨k, bl, pl, hb, hr, hp, rfl⟩
  refine ⟨h.size, h.defers, h.tmp, ⟨fun j hj => h.heap.dom j (by simpa using hj), fun j b hj => ?_, fun j j' b b' q q' hj hj' hne hro hro' hq hq' => ?_⟩, h.keep, by simpa using h.len, ?_, fun b hb' => ?_⟩
  · rcases set_get hj with ⟨rfl, rfl, _⟩ | ⟨hne, hj⟩
    · refine ⟨pl, hp, ⟨fun i x hi => ?_, by rw [hs]; exact hB.lt, fun _ => ⟨hoff, cs', hh, hle, hsz⟩⟩⟩
      obtain ⟨v, h1, h2⟩ := hc i x hi
      refine ⟨v, ?_, h2⟩
      simp [World.cell?, hh, hoff, h1]
    · obtain ⟨q, h1, h2⟩ := h.heap.at_ j b hj
      by_cases hlive : b.ro = false ∨ b.cells ≠ []
      · have hnb : q.blk ≠ pl.blk := fun e => h.heap.sep k j bl b pl q hb hj (Ne.symm hne) hr hlive hp h1 e.symm
        exact ⟨q, h1, h2.of_block (fun _ _ h => h) (hoth _ hnb) (by rw [hs]; exact Nat.le_refl _)⟩
      · refine ⟨q, h1, ⟨fun i x hi => ?_, by rw [hs]; exact h2.lt, fun hro => absurd (.inl hro) hlive⟩⟩
        have : b.cells = [] := Classical.byContradiction fun e => hlive (.inr e)
        rw [this] at hi; simp at hi
  · have hcell : ∀ x : Blk, (x.ro = false ∨ x.cells ≠ []) → True := fun _ _ => trivial
    rcases set_get hj with ⟨rfl, rfl, _⟩ | ⟨hn, hj2⟩
    · rcases set_get hj' with ⟨rfl, rfl, _⟩ | ⟨hn', hj3⟩
      · exact absurd rfl hne
      · exact h.heap.sep j j' bl b' q q' hb hj3 hne hr hro' hq hq'
    · rcases set_get hj' with ⟨rfl, rfl, _⟩ | ⟨hn', hj3⟩
      · exact h.heap.sep j j' b bl q q' hj2 hb hne hro (.inl hr) hq hq'
      · exact h.heap.sep j j' b b' q q' hj2 hj3 hne hro hro' hq hq'
  · refine ⟨ho.trans h.fr.os, ht.trans h.fr.tape, hu.trans h.fr.output, by rw [hs]; exact h.fr.size, fun b hlt hn => ?_⟩
    have : b ≠ pl.blk := fun e => by
      subst e
      rcases h.wrt _ hw with h' | h'
      · exact hn h'
      · omega
    rw [hoth b this]; exact h.fr.block b hlt hn
  · obtain ⟨j, b', q, hj, hro, hq, rfl⟩ := hb'
    rcases set_get hj with ⟨rfl, rfl, _⟩ | ⟨_, hj⟩
    · exact h.wrt _ ⟨j, bl, q, hb, hr, hq, rfl⟩
    · exact h.wrt _ ⟨j, b', q, hj, hro, hq, rfl⟩

/-! ### one operation -/
theorem wp_val {n : Nat} {E : Entry} {β : Map} {σ : Env} {H : Hp} {a : Act} {w : World} {o : Oper} {next : Act → World → Prop} {Q : Exit → Act → World → Prop} {K : Env → Hp → Prop} {x : AV} {s : Sem Value}
    (h : RS P n E β σ H a w) (hd : ∀ k, o.dst = some k → k < n) (he : execOp a.eval o = (do pure (.value (← s)))) (hv : Val P β x s w) (hK : K (upd σ o.dst x) H)
    (hn : ∀ β' σ' H' a' w', RS P n E β' σ' H' a' w' → K σ' H' → next a' w') : o.wp P a w next Q := by
  obtain ⟨v, w', h1, h2, h3⟩ := hv
  unfold Oper.wp
  rw [he]
  simp only [Sem.run_bind, h1, Result.andThen_ok, Sem.run_pure]
  exact hn _ _ _ _ _ ((h.same h2).put hd h3) hK

theorem wp_alloc' {n : Nat} {E : Entry} {β : Map} {σ : Env} {H : Hp} {a : Act} {w : World} {o : Oper} {next : Act → World → Prop} {Q : Exit → Act → World → Prop} {K : Env → Hp → Prop} {x : AV} {v : Value} {s : Sem Value} {e : TypeId} {xs : List AV} {cs : Array Value} {m : Nat}
    (h : RS P n E β σ H a w) (hd : ∀ k, o.dst = some k → k < n) (he : execOp a.eval o = (do pure (.value (← s)))) (hs : s.run P w = .ok v (w.alloc (.cells cs e))) (hc : VRs β xs cs.toList) (hm : ∀ ti, tof P e = some ti → cs.size = m * ti.size) (hmax : m ≤ maxLen)
    (hv : VR (at_ β H.length ⟨w.heap.size, 0, m⟩) x v) (hK : K (upd σ o.dst x) (H ++ [⟨e, false, xs⟩]))
    (hn : ∀ β' σ' H' a' w', RS P n E β' σ' H' a' w' → K σ' H' → next a' w') : o.wp P a w next Q := by
  unfold Oper.wp
  rw [he]
  simp only [Sem.run_bind, hs, Result.andThen_ok, Sem.run_pure]
  exact hn _ _ _ _ _ ((h.alloc (fun i x hi => by simpa using hc.get hi) (by have := hc.length; simp at this; omega) hm hmax).put hd hv) hK

end Go.Vc

/- One operation: its condition, and what the model does. -/
namespace Go.Vc
open Go

variable {P : Program}

theorem getElem_map_toList {α β : Type} (f : α → β) (xs : Array α) (i : Nat) : (xs.toList.map f)[i]? = (xs[i]?).map f := by simp

/-- What 'fill' does is what 'fillAV' does. -/
theorem fold_set (off : Nat) : ∀ (vs : List Value) (i : Nat) (cs : Array Value), (((vs.zipIdx i).foldl (fun cs (x : Value × Nat) => cs.setIfInBounds (off + x.2) x.1) cs)).size = cs.size ∧
    ∀ j : Nat, off + i + vs.length ≤ cs.size → ((vs.zipIdx i).foldl (fun cs (x : Value × Nat) => cs.setIfInBounds (off + x.2) x.1) cs)[j]? = if off + i ≤ j ∧ j < off + i + vs.length then vs[j - (off + i)]? else cs[j]?
  | [], i, cs => ⟨rfl, fun j _ => by rw [if_neg (by simp only [List.length_nil]; omega)]; rfl⟩
  | v :: vs, i, cs => by
    obtain ⟨h1, h2⟩ := fold_set off vs (i + 1) (cs.setIfInBounds (off + i) v)
    simp only [List.zipIdx_cons, List.foldl_cons]
    refine ⟨by rw [h1]; simp, fun j hl => ?_⟩
    simp only [List.length_cons] at hl
    rw [h2 j (by simp; omega)]
    by_cases hj : j = off + i
    · subst hj
      rw [if_neg (by omega), if_pos (by simp only [List.length_cons]; omega)]
      rw [Array.getElem?_setIfInBounds]; simp; omega
    · by_cases hin : off + (i + 1) ≤ j ∧ j < off + (i + 1) + vs.length
      · rw [if_pos hin, if_pos (by simp only [List.length_cons]; omega), show j - (off + i) = (j - (off + (i + 1))) + 1 from by omega]; simp
      · rw [if_neg hin, if_neg (by simp only [List.length_cons]; omega), Array.getElem?_setIfInBounds_ne (by omega)]

theorem sound_fill {β : Map} {place : Nat → Option (Nat × Nat)} : ∀ (ps : List (Nat × AV)) (qs : List (Nat × Value)) (cells : List AV) (cs : Array Value) (out : List AV), ps.map (·.1) = qs.map (·.1) → VRs β (ps.map (·.2)) (qs.map (·.2)) →
    VRs β cells cs.toList → fillAV place cells ps = some out → ∃ cs', Instr.fill place cs qs = some cs' ∧ VRs β out cs'.toList ∧ cs'.size = cs.size
  | [], [], cells, cs, out, _, _, hc, h => by simp [fillAV] at h; subst h; exact ⟨cs, rfl, hc, rfl⟩
  | [], q :: qs, _, _, _, h1, _, _, _ => by simp at h1
  | p :: ps, [], _, _, _, h1, _, _, _ => by simp at h1
  | (i, x) :: ps, (i', v) :: qs, cells, cs, out, h1, h2, hc, h => by
    simp only [List.map_cons, List.cons.injEq] at h1
    obtain ⟨rfl, h1⟩ := h1
    simp only [List.map_cons] at h2
    cases h2 with
    | cons _ _ _ _ hx ht =>
    unfold fillAV at h
    cases hp : place i with
    | none => simp [hp] at h
    | some os =>
      obtain ⟨off, size⟩ := os
      simp only [hp] at h
      split at h
      · rename_i hcond
        obtain ⟨hk, hl, hle⟩ := hcond
        have hu : x ≠ .u := fun e => by subst e; cases hk
        have hv := hx.cells hu
        have e1 := hv.length
        have e2 := hc.length
        simp only [Array.length_toList] at e1 e2
        have hf := fold_set off v.cells.toList 0 cs
        have hspl : VRs β (splice cells off x.cells) ((v.cells.toList.zipIdx 0).foldl (fun cs (x : Value × Nat) => cs.setIfInBounds (off + x.2) x.1) cs).toList := by
          refine VRs.of_get ?_ fun j y u hy hu => ?_
          · rw [splice_length (by omega)]; simp only [Array.length_toList]; rw [hf.1]; omega
          · rw [splice_get (by omega)] at hy
            have := hf.2 j (by simp; omega)
            rw [← Array.getElem?_toList] at this
            rw [this] at hu
            simp only [Nat.add_zero, Array.length_toList] at hu
            by_cases hj : off ≤ j ∧ j < off + x.cells.length
            · rw [if_pos hj] at hy
              rw [if_pos (by omega)] at hu
              obtain ⟨z, hz1, hz2⟩ := hv.get hy
              rw [hz1] at hu; cases hu; exact hz2
            · rw [if_neg hj] at hy
              rw [if_neg (by omega)] at hu
              obtain ⟨z, hz1, hz2⟩ := hc.get hy
              rw [← Array.getElem?_toList] at hu
              rw [hz1] at hu; cases hu; exact hz2
        obtain ⟨cs', r1, r2, r3⟩ := sound_fill ps qs _ _ out h1 ht hspl h
        refine ⟨cs', ?_, r2, by rw [r3]; exact hf.1⟩
        unfold Instr.fill
        simp only [hp]
        rw [if_neg (by simp; omega)]
        rw [← r1]
        congr 1
        rw [← Array.foldl_toList, Array.toList_zipIdx]
      · cases h

theorem parts_eq {β : Map} {n : Nat} {E : Entry} {σ : Env} {H : Hp} {a : Act} {w : World} (h : RS P n E β σ H a w) (parts : Array (Nat × Operand)) :
    ((parts.toList.map fun q => (q.1, ev σ q.2)).map (·.1)) = ((parts.map fun (i, x) => (i, a.eval x)).toList.map (·.1)) ∧
    VRs β ((parts.toList.map fun q => (q.1, ev σ q.2)).map (·.2)) ((parts.map fun (i, x) => (i, a.eval x)).toList.map (·.2)) := by
  refine ⟨by simp, ?_⟩
  have := h.evs (parts.toList.map (·.2))
  simpa [List.map_map, Function.comp_def] using this

theorem replicate_u (β : Map) : ∀ vs : List Value, VRs β (List.replicate vs.length .u) vs
  | [] => .nil
  | _ :: vs => .cons _ _ _ _ (.u _) (replicate_u β vs)

end Go.Vc

/- Each operation, but for calls. -/
namespace Go.Vc
open Go

variable {P : Program}

/-- What a step of the walk owes. -/
def Steps1 (P : Program) (n : Nat) (E : Entry) (σ : Env) (H : Hp) (o : Oper) (K : Env → Hp → Prop) : Prop :=
  ∀ (β : Map) (a : Act) (w : World) (next : Act → World → Prop) (Q : Exit → Act → World → Prop), RS P n E β σ H a w → (∀ k, o.dst = some k → k < n) →
    (∀ β' σ' H' a' w', RS P n E β' σ' H' a' w' → K σ' H' → next a' w') → o.wp P a w next Q

theorem run_buildSlice0 (w : World) (t e : TypeId) (len : Nat) (parts : Array (Nat × Value)) (cells : Array Value) (ie : TypeInfo) (hu : P.underlying t = some (.slice e)) (hie : P.info? e = some ie) (h0 : len * ie.size = 0)
    (h : Instr.fill (fun i => some (i * ie.size, ie.size)) #[] parts.toList = some cells) :
    (Instr.buildSlice t len parts).run P w = .ok (.slice (some ⟨w.heap.size, 0, none⟩) len len) (w.alloc (.cells cells e)) := by
  have e0 : Array.map (fun _ => (default : Value)) (Array.range 0) = #[] := by simp
  simp [Instr.buildSlice, run_underlying hu, sizeOf, typeInfo, hie, h0, e0, h, newRow]

theorem run_buildSlice1 (w : World) (t e : TypeId) (len : Nat) (parts : Array (Nat × Value)) (cells : Array Value) (ie : TypeInfo) (z : Value)
    (hu : P.underlying t = some (.slice e)) (hie : P.info? e = some ie) (hz : ie.zero = some z) (hsmall : ¬ len * ie.size > 2 ^ 24) (hpos : ¬ len * ie.size = 0)
    (h : Instr.fill (fun i => some (i * ie.size, ie.size)) ((Array.range (len * ie.size)).map (z.cells[· % z.cells.size]!)) parts.toList = some cells) :
    (Instr.buildSlice t len parts).run P w = .ok (.slice (some ⟨w.heap.size, 0, none⟩) len len) (w.alloc (.cells cells e)) := by
  simp [Instr.buildSlice, run_underlying hu, sizeOf, typeInfo, zeroValue, hie, hz, hsmall, hpos, h, newRow]

section
variable {n : Nat} {E : Entry} {σ : Env} {H : Hp} {K : Env → Hp → Prop} {d : Option Nat} {tp : TypeId} {pos : String} {af : Array Edge} {g : Option (Nat × Bool)} {Φ : Contract}

theorem o_move {x : Operand} (h : opVC P Φ ⟨d, .move x, tp, pos, af, g⟩ σ H K) : Steps1 P n E σ H ⟨d, .move x, tp, pos, af, g⟩ K := by
  intro β a w next Q hR hd hn
  exact wp_val (s := pure (a.eval x)) hR hd rfl (.pure (hR.ev x)) h hn

theorem o_assign {x : Operand} (h : opVC P Φ ⟨d, .assign x, tp, pos, af, g⟩ σ H K) : Steps1 P n E σ H ⟨d, .assign x, tp, pos, af, g⟩ K := by
  intro β a w next Q hR hd hn
  exact wp_val (s := pure (a.eval x)) hR hd rfl (.pure (hR.ev x)) h hn

theorem o_pick {c x y : Operand} (h : opVC P Φ ⟨d, .pick c x y, tp, pos, af, g⟩ σ H K) : Steps1 P n E σ H ⟨d, .pick c x y, tp, pos, af, g⟩ K := by
  intro β a w next Q hR hd hn
  simp only [opVC, opV] at h
  split at h
  · rename_i t hc
    have hv := hR.ev c
    rw [hc] at hv
    generalize hce : a.eval c = cv at hv
    cases hv
    refine wp_val (s := pure (if t then a.eval x else a.eval y)) hR hd ?_ (.pure (x := if t then ev σ x else ev σ y) ?_) h hn
    · simp [execOp, hce, asBool]
    · cases t
      · exact hR.ev y
      · exact hR.ev x
  · exact h.elim

theorem o_alloc {e : TypeId} (h : opVC P Φ ⟨d, .alloc e, tp, pos, af, g⟩ σ H K) : Steps1 P n E σ H ⟨d, .alloc e, tp, pos, af, g⟩ K := by
  intro β a w next Q hR hd hn
  simp only [opVC, opV] at h
  split at h
  · rename_i ti ht
    obtain ⟨i, dd, z, hT⟩ := tof_spec ht
    have hz : VRs β ti.zero z.cells.toList := by rw [← hT.cells]; exact ofCells_VRs β _
    refine wp_alloc' (s := Instr.alloc e true (.tuple #[])) (m := 1) hR hd rfl ?_ hz ?_ (by decide) (.p _ _ _ (by simp [at_]; rfl)) h hn
    · simp [Instr.alloc, zeroValue, typeInfo, hT.info, hT.zero, newVar, newRow]
    · intro ti' h'; rw [ht] at h'; cases h'; rw [Nat.one_mul]; exact hT.zsize
  · exact h.elim

theorem o_box {e : TypeId} {x : Operand} (h : opVC P Φ ⟨d, .box e x, tp, pos, af, g⟩ σ H K) : Steps1 P n E σ H ⟨d, .box e x, tp, pos, af, g⟩ K := by
  intro β a w next Q hR hd hn
  simp only [opVC, opV] at h
  obtain ⟨hk, hsz, h⟩ := h
  have hv := (hR.ev x).cells (fun e => by rw [e] at hk; cases hk)
  refine wp_alloc' (s := Instr.box e (a.eval x)) (m := 1) hR hd rfl ?_ hv ?_ (by decide) (.p _ _ _ (by simp [at_]; rfl)) h hn
  · simp [Instr.box, newVar, newRow]
  · intro ti h'
    have := hv.length
    rw [hsz ti h'] at this
    simp at this; omega

theorem o_build {t : TypeId} {parts : Array (Nat × Operand)} (h : opVC P Φ ⟨d, .build t parts, tp, pos, af, g⟩ σ H K) : Steps1 P n E σ H ⟨d, .build t parts, tp, pos, af, g⟩ K := by
  intro β a w next Q hR hd hn
  obtain ⟨hp1, hp2⟩ := parts_eq hR parts
  simp only [opVC, opV] at h
  split at h
  · rename_i ti ht
    obtain ⟨i, dd, z, hT⟩ := tof_spec ht
    have hz : VRs β ti.zero z.cells.toList := by rw [← hT.cells]; exact ofCells_VRs β _
    have hsh := hT.shape
    split at h
    · rename_i fs hs
      rw [hs] at hsh
      obtain ⟨F, rfl, hF⟩ := shape_struct hsh
      split at h
      · rename_i x hx
        obtain ⟨cs, hcs, rfl⟩ := Option.map_eq_some_iff.1 hx
        obtain ⟨cs', r1, r2, r3⟩ := sound_fill _ _ _ _ _ hp1 hp2 hz hcs
        refine wp_val (s := Instr.build t (parts.map fun (i, x) => (i, a.eval x))) hR hd rfl (.of_run (run_build w t _ cs' ?_) (.ag _ _ r2)) h hn
        have hpl := hT.places
        simp only [placesOf] at hpl
        unfold Program.built
        simp only [hT.info, hT.under, hT.zero, hpl]
        rw [← r1]
        congr 1
        funext i
        simp
      · exact h.elim
    · rename_i m e hs
      rw [hs] at hsh
      have hd2 := shape_array hsh; subst hd2
      split at h
      · rename_i ei he
        obtain ⟨ie, de, ze, hTe⟩ := tof_spec he
        split at h
        · rename_i x hx
          obtain ⟨cs, hcs, rfl⟩ := Option.map_eq_some_iff.1 hx
          obtain ⟨cs', r1, r2, r3⟩ := sound_fill _ _ _ _ _ hp1 hp2 hz hcs
          refine wp_val (s := Instr.build t (parts.map fun (i, x) => (i, a.eval x))) hR hd rfl (.of_run (run_build w t _ cs' ?_) (.ag _ _ r2)) h hn
          unfold Program.built
          simp only [hT.info, hT.under, hT.zero, hTe.info, hTe.size]
          exact r1
        · exact h.elim
      · exact h.elim
    · exact h.elim
  · exact h.elim

theorem o_buildSlice {t : TypeId} {len : Nat} {parts : Array (Nat × Operand)} (h : opVC P Φ ⟨d, .buildSlice t len parts, tp, pos, af, g⟩ σ H K) : Steps1 P n E σ H ⟨d, .buildSlice t len parts, tp, pos, af, g⟩ K := by
  intro β a w next Q hR hd hn
  obtain ⟨hp1, hp2⟩ := parts_eq hR parts
  simp only [opVC, opV] at h
  split at h
  · rename_i ti ht
    obtain ⟨i, dd, z, hT⟩ := tof_spec ht
    have hsh := hT.shape
    split at h
    · rename_i e hs
      rw [hs] at hsh
      have hd2 := shape_slice hsh; subst hd2
      split at h
      · rename_i ei he
        obtain ⟨ie, de, ze, hTe⟩ := tof_spec he
        split at h
        · rename_i cs hcs
          obtain ⟨⟨hle, hle2⟩, h⟩ := h
          have key : ∃ cs' : Array Value, (Instr.buildSlice t len (parts.map fun (i, x) => (i, a.eval x))).run P w = .ok (.slice (some ⟨w.heap.size, 0, none⟩) len len) (w.alloc (.cells cs' e)) ∧ VRs β cs cs'.toList ∧ cs'.size = len * ei.size := by
            have hsz : ∀ Y : Array Value, Y.size = len * ei.size → VRs β (List.replicate (len * ei.size) .u) Y.toList := fun Y hY => by
              have := replicate_u β Y.toList
              rwa [Array.length_toList, hY] at this
            by_cases h0 : len * ie.size = 0
            · have h0' : len * ei.size = 0 := by rw [← hTe.size]; exact h0
              obtain ⟨cs', r1, r2, r3⟩ := sound_fill _ _ _ #[] _ hp1 hp2 (hsz #[] (by rw [h0']; rfl)) hcs
              rw [← hTe.size] at r1
              exact ⟨cs', run_buildSlice0 w t e len _ cs' ie hT.under hTe.info h0 r1, r2, by rw [r3, h0']; rfl⟩
            · obtain ⟨cs', r1, r2, r3⟩ := sound_fill _ _ _ ((Array.range (len * ie.size)).map (ze.cells[· % ze.cells.size]!)) _ hp1 hp2 (hsz _ (by simp [hTe.size])) hcs
              rw [← hTe.size] at r1
              exact ⟨cs', run_buildSlice1 (P := P) w t e len _ cs' ie ze hT.under hTe.info hTe.zero (by rw [hTe.size]; omega) h0 r1, r2, by rw [r3]; simp [hTe.size]⟩
          obtain ⟨cs', hrun, r2, hcsz⟩ := key
          have hval : VR (at_ β H.length ⟨w.heap.size, 0, len⟩) (.sl H.length 0 len .own) (.slice (some ⟨w.heap.size, 0, none⟩) len len) :=
            .sl H.length 0 len .own len ⟨w.heap.size, 0, len⟩ 0 (by simp [at_]) ⟨rfl, rfl, rfl⟩ (Nat.le_refl _) (.inl rfl)
          have he' : execOp a.eval ⟨d, .buildSlice t len parts, tp, pos, af, g⟩ = (do pure (.value (← Instr.buildSlice t len (parts.map fun (i, x) => (i, a.eval x))))) := rfl
          refine wp_alloc' hR hd he' hrun r2 ?_ ?_ hval h hn
          · intro ti' h'; rw [he] at h'; cases h'; exact hcsz
          · unfold maxLen; omega
        · exact h.elim
      · exact h.elim
    · exact h.elim
  · exact h.elim


theorem zeros_get (z : List AV) : ∀ (n i : Nat), i < n * z.length → (zeros n z)[i]? = z[i % z.length]?
  | 0, i, h => by omega
  | n + 1, i, h => by
    unfold zeros
    rcases Nat.lt_or_ge i z.length with hl | hl
    · rw [List.getElem?_append_left hl, Nat.mod_eq_of_lt hl]
    · rw [List.getElem?_append_right hl, zeros_get z n (i - z.length) (by rw [Nat.add_mul] at h; omega)]
      congr 1
      exact (Nat.mod_eq_sub_mod hl).symm
theorem zeros_length (z : List AV) : ∀ n, (zeros n z).length = n * z.length
  | 0 => by simp [zeros]
  | n + 1 => by simp [zeros, zeros_length z n, Nat.add_mul]; omega

theorem o_makeSlice {t : TypeId} {l c : Operand} (h : opVC P Φ ⟨d, .makeSlice t l c, tp, pos, af, g⟩ σ H K) : Steps1 P n E σ H ⟨d, .makeSlice t l c, tp, pos, af, g⟩ K := by
  intro β a w next Q hR hd hn
  simp only [opVC, opV] at h
  split at h
  · rename_i ti kl m kc m' ht hl hc
    obtain ⟨i, dd, z, hT⟩ := tof_spec ht
    have hsh := hT.shape
    split at h
    · rename_i e hs
      rw [hs] at hsh
      have hd2 := shape_slice hsh; subst hd2
      split at h
      · rename_i ei he
        obtain ⟨ie, de, ze, hTe⟩ := tof_spec he
        obtain ⟨⟨e1, h0, h1, h2⟩, h⟩ := h
        subst e1
        have hvl := hR.ev l
        have hvc := hR.ev c
        rw [hl] at hvl; rw [hc] at hvc
        generalize hle : a.eval l = lv at hvl
        generalize hce : a.eval c = cv at hvc
        cases hvl; cases hvc
        have hrun := run_make (P := P) w t e ie ze hT.under hTe.info hTe.zero kl kc m m h0 (Int.le_refl _) (by rw [hTe.bytes]; exact h2) (by omega)
        have hz : VRs β ei.zero ze.cells.toList := by rw [← hTe.cells]; exact ofCells_VRs β _
        have hzl := hz.length
        simp only [Array.length_toList, hTe.zsize] at hzl
        have hcells : VRs β (zeros m.toNat ei.zero) (madeCells ze.cells (m.toNat * ie.size)).toList := by
          refine .of_get (by rw [zeros_length]; simp [madeCells, hTe.size, hzl]) fun j x v hx hv => ?_
          have hjl := (List.getElem?_eq_some_iff.1 hx).1
          rw [zeros_length] at hjl
          rw [zeros_get _ _ _ hjl] at hx
          obtain ⟨u, hu1, hu2⟩ := hz.get hx
          have hpos : 0 < ei.zero.length := by
            rcases Nat.eq_zero_or_pos ei.zero.length with h' | h'
            · rw [h'] at hjl; omega
            · exact h'
          have hmod : j % ei.zero.length < ze.cells.size := by rw [hTe.zsize, ← hzl]; exact Nat.mod_lt _ hpos
          have : v = u := by
            simp only [madeCells, Array.toList_map, List.getElem?_map, Array.toList_range, Option.map_eq_some_iff] at hv
            obtain ⟨q, hq1, hq2⟩ := hv
            have : q = j := by
              rw [List.getElem?_range (by rw [hTe.size, ← hzl]; exact hjl)] at hq1; exact (Option.some.inj hq1).symm
            subst this
            rw [hTe.zsize, ← hzl, getElem!_pos ze.cells _ hmod] at hq2
            simp only [Array.getElem?_toList, Array.getElem?_eq_getElem hmod] at hu1
            rw [← hq2]; exact Option.some.inj hu1
          subst this; exact hu2
        refine wp_alloc' (s := Instr.makeSlice t (a.eval l) (a.eval c)) (m := m.toNat) hR hd rfl (by rw [hle, hce]; exact hrun) hcells ?_ (by unfold maxLen; omega) ?_ h hn
        · intro ti' h'; rw [he] at h'; cases h'; rw [size_madeCells, hTe.size]
        · exact .sl H.length 0 m.toNat .own m.toNat ⟨w.heap.size, 0, m.toNat⟩ 0 (by simp [at_]) ⟨rfl, rfl, rfl⟩ (Nat.le_refl _) (.inl rfl)
      · exact h.elim
    · exact h.elim
  · exact h.elim

end
end Go.Vc
