/- An interpreter over abstract values and its proof. -/
import Derived.Test.YtkbpkocalmcphaaA2
/- Code made ready, and an interpreter that works everything out ahead: definitions. -/
namespace Go.Vc
open Go

/-- A way through a tree. -/
inductive Pth where
  | e | l (p : Pth) | r (p : Pth)
  deriving Inhabited, DecidableEq

def pthF : Nat → Nat → Pth
  | 0, _ => .e
  | f + 1, i => if i = 0 then .e else if i % 2 = 1 then .l (pthF f (i / 2)) else .r (pthF f (i / 2 - 1))
def pth (i : Nat) : Pth := pthF (i + 1) i
def Pth.num : Pth → Nat
  | .e => 0
  | .l p => 2 * p.num + 1
  | .r p => 2 * p.num + 2

inductive T where
  | e | n (v : AV) (l r : T)
  deriving Inhabited

def T.get : T → Pth → AV
  | .e, _ => .u
  | .n v _ _, .e => v
  | .n _ l _, .l p => l.get p
  | .n _ _ r, .r p => r.get p

def T.val : T → AV
  | .e => .u
  | .n v _ _ => v
def T.left : T → T
  | .e => .e
  | .n _ l _ => l
def T.right : T → T
  | .e => .e
  | .n _ _ r => r

def T.set (t : T) : Pth → AV → T
  | .e, v => .n v t.left t.right
  | .l p, v => .n t.val (t.left.set p v) t.right
  | .r p, v => .n t.val t.left (t.right.set p v)

def T.setK {α : Type} (t : T) (p : Pth) (v : AV) (k : T → α) : α := match p, t with
  | .e, .e => k (.n v .e .e)
  | .e, .n _ l r => k (.n v l r)
  | .l p, .e => T.setK .e p v fun l => k (.n .u l .e)
  | .l p, .n w l r => T.setK l p v fun l => k (.n w l r)
  | .r p, .e => T.setK .e p v fun r => k (.n .u .e r)
  | .r p, .n w l r => T.setK r p v fun r => k (.n w l r)

inductive Od where
  | t (p : Pth) | c (v : AV)
  deriving Inhabited

def Od.ev (t : T) : Od → AV
  | .t p => t.get p
  | .c v => v

inductive J where
  | mov (x : Od)
  | pick (c x y : Od)
  | alloc (e : TypeId) (z : List AV)
  | box (e : TypeId) (n : Nat) (x : Od)
  | build (z : List AV) (parts : List (Nat × Nat × Od))
  | bslice (e : TypeId) (n len : Nat) (parts : List (Nat × Nat × Od))
  | mslice (e : TypeId) (bytes : Nat) (z : List AV) (l c : Od)
  | load (x : Od) (agg : Bool) (n : Nat)
  | store (x v : Od) (n : Nat)
  | nilc (x : Od)
  | bin (op : BinOp) (sh : Option Shape) (x y : Od)
  | un (op : UnOp) (x : Od)
  | conv (sh : Shape) (x : Od)
  | faddr (x : Od) (off : Nat)
  | field (x : Od) (off : Nat) (agg : Bool) (n : Nat)
  | ixs (x i : Od) (n : Nat)
  | ixa (x i : Od) (len n : Nat)
  | slc (n : Nat) (x : Od) (lo hi : Option Od)
  | ext (x : Od) (j : Nat)
  | mkf (f : FuncId) (cap : List Od)
  | len (sh : Shape) (x : Od)
  | app (e : TypeId) (n bytes : Nat) (s x : Od)
  | bi (b : Builtin) (xs : List Od)
  | call (p : Pth) (still : Bool) (xs : List Od)
  deriving Inhabited

structure JO where
  dst : Option Pth
  guard : Option (Pth × Bool)
  op : J
  deriving Inhabited

inductive JC where
  | skip | ret | exit (id : Nat)
  | seq (a b : JC)
  | cond (c : Od) (a b : JC)
  | block (id : Nat) (c : JC)
  | loop (c : JC)
  | reg (ops : List JO)
  deriving Inhabited

/-! ### making ready -/
def cOd (x : Operand) : Option Od := match x with
  | .tmp t => some (.t (pth t))
  | .const v => some (.c (ofVal v))
  | .func f => some (.c (.fn f []))
  | .global _ => none

def cOds : List Operand → Option (List Od)
  | [] => some []
  | x :: xs => match cOd x, cOds xs with
    | some y, some ys => some (y :: ys)
    | _, _ => none

def cParts (place : Nat → Option (Nat × Nat)) : List (Nat × Operand) → Option (List (Nat × Nat × Od))
  | [] => some []
  | (i, x) :: rest => match place i, cOd x, cParts place rest with
    | some (o, n), some y, some ys => some ((o, n, y) :: ys)
    | _, _, _ => none

def cOp (P : Program) (still : Bool) (o : Op) : Option J :=
  match o with
  | .move x | .assign x => (cOd x).map .mov
  | .pick c x y => match cOd c, cOd x, cOd y with
    | some c, some x, some y => some (.pick c x y)
    | _, _, _ => none
  | .alloc e => (tof P e).map fun ti => .alloc e ti.zero
  | .box e x => match tof P e, cOd x with
    | some ti, some x => some (.box e ti.size x)
    | _, _ => none
  | .build t parts => match tof P t with
    | some ti => match ti.shape with
      | .struct _ => (cParts (ti.places[·]?) parts.toList).map fun ps => .build ti.zero ps
      | .array _ e => match tof P e with
        | some ei => (cParts (fun i => some (i * ei.size, ei.size)) parts.toList).map fun ps => .build ti.zero ps
        | none => none
      | _ => none
    | none => none
  | .buildSlice t len parts => match tof P t with
    | some ti => match ti.shape with
      | .slice e => match tof P e with
        | some ei => if len * ei.size ≤ 16777216 ∧ len ≤ 16777216 then (cParts (fun i => some (i * ei.size, ei.size)) parts.toList).map fun ps => .bslice e (len * ei.size) len ps else none
        | none => none
      | _ => none
    | none => none
  | .makeSlice t l c => match tof P t, cOd l, cOd c with
    | some ti, some l, some c => match ti.shape with
      | .slice e => match tof P e with
        | some ei => some (.mslice e ei.bytes ei.zero l c)
        | none => none
      | _ => none
    | _, _, _ => none
  | .load t x => match tof P t, cOd x with
    | some ti, some x => some (.load x ti.shape.agg ti.size)
    | _, _ => none
  | .store t x v => match tof P t, cOd x, cOd v with
    | some ti, some x, some v => some (.store x v ti.size)
    | _, _, _ => none
  | .nilCheck x => (cOd x).map .nilc
  | .binOp op t x y _ => match cOd x, cOd y with
    | some x, some y => some (.bin op ((tof P t).map (·.shape)) x y)
    | _, _ => none
  | .unOp op _ x => (cOd x).map fun x => .un op x
  | .convert s d x => match tof P s, tof P d, cOd x with
    | some _, some di, some x => some (.conv di.shape x)
    | _, _, _ => none
  | .fieldAddr t x j => match tof P t, cOd x with
    | some ti, some x => match ti.shape with
      | .struct fs => match fs[j]? with
        | some (off, ft) => match tof P ft with
          | some fi => if fi.size = 0 then none else some (.faddr x off)
          | none => none
        | none => none
      | _ => none
    | _, _ => none
  | .field t x j => match tof P t, cOd x with
    | some ti, some x => match ti.shape with
      | .struct fs => match fs[j]? with
        | some (off, ft) => match tof P ft with
          | some fi => some (.field x off fi.shape.agg fi.size)
          | none => none
        | none => none
      | _ => none
    | _, _ => none
  | .indexAddr t x i => match tof P t, cOd x, cOd i with
    | some ti, some x, some i => match ti.shape with
      | .slice e => match tof P e with
        | some ei => some (.ixs x i ei.size)
        | none => none
      | .array n e => match tof P e with
        | some ei => some (.ixa x i n ei.size)
        | none => none
      | _ => none
    | _, _, _ => none
  | .slice t x lo hi none => match tof P t, cOd x with
    | some ti, some x => match ti.shape with
      | .slice e => match tof P e with
        | some ei => match lo, hi with
          | none, none => some (.slc ei.size x none none)
          | some l, none => (cOd l).map fun l => .slc ei.size x (some l) none
          | none, some h => (cOd h).map fun h => .slc ei.size x none (some h)
          | some l, some h => match cOd l, cOd h with
            | some l, some h => some (.slc ei.size x (some l) (some h))
            | _, _ => none
        | none => none
      | _ => none
    | _, _ => none
  | .extract x j => (cOd x).map fun x => .ext x j
  | .makeFunc (.func f) first cap => if first.size = 0 then (cOds cap.toList).map fun c => .mkf f c else none
  | .call { callee := .builtin bi, args := as, argTypes := ts } => match bi, as.toList, ts.toList with
    | .len, [x], [t] => match tof P t, cOd x with
      | some ti, some x => some (.len ti.shape x)
      | _, _ => none
    | .append, [s, x], [t, t'] => if t = t' then match tof P t, cOd s, cOd x with
        | some ti, some s, some x => match ti.shape with
          | .slice e => match tof P e with
            | some ei => some (.app e ei.size ei.bytes s x)
            | none => none
          | _ => none
        | _, _, _ => none
      else none
    | .real, as, _ => (cOds as).map (.bi .real)
    | .imag, as, _ => (cOds as).map (.bi .imag)
    | .complex, as, _ => (cOds as).map (.bi .complex)
    | .max, as, _ => (cOds as).map (.bi .max)
    | _, _, _ => none
  | .call { callee := .value (.func f), args := as, argTypes := _ } => (cOds as.toList).map (.call (pth f) still)
  | _ => none

def cOper (P : Program) (ops : Array Oper) (still : Bool) (o : Oper) : Option JO := match cOp P still o.op with
  | none => none
  | some j => match o.guard with
    | none => some ⟨o.dst.map pth, none, j⟩
    | some (g, want) => match (ops[g]?).bind (·.dst) with
      | some d => some ⟨o.dst.map pth, some (pth d, want), j⟩
      | none => none

def cOpers (P : Program) (ops : Array Oper) : List Oper → Option (List JO)
  | [] => some []
  | o :: rest => match cOper P ops false o, cOpers P ops rest with
    | some j, some js => some (j :: js)
    | _, _ => none

/-- Which calls of a drawing region are to leave all blocks as they are. -/
def stills (P : Program) (quiet : FuncId → Bool) : Nat → List Oper → List Nat
  | _, [] => []
  | i, o :: rest => (match o.op with
    | .call { callee := .value (.func f), args := _, argTypes := _ } => if quiet f then [i] else []
    | _ => []) ++ stills P quiet (i + 1) rest

def isCall : Op → Bool
  | .call { callee := .value _, args := _, argTypes := _ } => true
  | _ => false

def cOpersD (P : Program) (ops : Array Oper) (lk : List Nat) : Nat → List Oper → Option (List JO)
  | _, [] => some []
  | i, o :: rest => match cOper P ops (lk.contains i) o, cOpersD P ops lk (i + 1) rest with
    | some j, some js => if lk.contains i && !isCall o.op then none else some (j :: js)
    | _, _ => none

/-- Every look and every change stand in order. -/
def lmRow (pm lk : List Nat) (i : Nat) (y : Oper) : Nat → List Oper → Bool
  | _, [] => true
  | j, x :: xs => (if j < i then behind pm i j || !((isL lk i y && isM lk j x) || (isM lk i y && isL lk j x)) else true) && lmRow pm lk i y (j + 1) xs
def lmAll (pm lk : List Nat) (all : List Oper) : Nat → List Oper → Bool
  | _, [] => true
  | i, y :: ys => lmRow pm lk i y 0 all && lmAll pm lk all (i + 1) ys

def cCode (P : Program) (quiet : FuncId → Bool) : Code → Option JC
  | .skip => some .skip
  | .ret => some .ret
  | .exit id => some (.exit id)
  | .seq a b => match cCode P quiet a, cCode P quiet b with
    | some a, some b => some (.seq a b)
    | _, _ => none
  | .cond c a b => match cOd c, cCode P quiet a, cCode P quiet b with
    | some c, some a, some b => some (.cond c a b)
    | _, _, _ => none
  | .block id c => (cCode P quiet c).map (.block id)
  | .loop c => (cCode P quiet c).map .loop
  | .region _ ops false => (cOpers P ops ops.toList).map .reg
  | .region _ ops true =>
    let lk := stills P quiet 0 ops.toList
    if regOK ops.toList lk && lmAll (preM ops.toList) lk ops.toList 0 ops.toList then (cOpersD P ops lk 0 ops.toList).map .reg else none
  | _ => none

/-! ### running -/
/-- For the kernel: a number is worked out ahead of what is done with it. -/
def force {α : Type} (x : Nat) (f : Nat → α) : α := Nat.casesOn x (f 0) fun n => f (n + 1)

mutual
def forceAV {α : Type} : AV → (AV → α) → α
  | .f k x, f => force x fun x => f (.f k x)
  | .c k x y, f => force x fun x => force y fun y => f (.c k x y)
  | .i k (.ofNat n), f => force n fun n => f (.i k (.ofNat n))
  | .i k (.negSucc n), f => force n fun n => f (.i k (.negSucc n))
  | .p k o, f => force k fun k => force o fun o => f (.p k o)
  | .sl k o n c, f => force k fun k => force o fun o => force n fun n => f (.sl k o n c)
  | .b true, f => f (.b true)
  | .b false, f => f (.b false)
  | .ag xs, f => forceAVs xs fun xs => f (.ag xs)
  | .tu xs, f => forceAVs xs fun xs => f (.tu xs)
  | .u, f => f .u
  | .s x, f => f (.s x)
  | .np, f => f .np
  | .ns, f => f .ns
  | .fn g xs, f => forceAVs xs fun xs => f (.fn g xs)
def forceAVs {α : Type} : List AV → (List AV → α) → α
  | [], f => f []
  | x :: xs, f => forceAV x fun x => forceAVs xs fun xs => f (x :: xs)
end

/-- Cells that are worked out already are taken as they are: just the list's own shape. -/
def spineK {α β : Type} : List β → (List β → α) → α
  | [], f => f []
  | x :: xs, f => spineK xs fun xs => f (x :: xs)

def setCellK {α β : Type} : List β → Nat → β → (List β → Option α) → Option α
  | [], _, _, _ => none
  | _ :: xs, 0, v, f => f (v :: xs)
  | x :: xs, n + 1, v, f => setCellK xs n v fun xs => f (x :: xs)

abbrev Rs := AV × Option Blk
abbrev CallE := Pth → List AV → Hp → Option Rs

def putK {α : Type} (v : Option AV) (H : Hp) (k : AV → Hp → Option α) : Option α := match v with
  | some v => forceAV v fun v => k v H
  | none => none

def fillP : List AV → List (Nat × Nat × AV) → Option (List AV)
  | cells, [] => some cells
  | cells, (off, size, v) :: rest => if v.known && v.cells.length == size && (off + size).ble cells.length then fillP (splice cells off v.cells) rest else none

def evs (t : T) : List Od → List AV
  | [] => []
  | x :: xs => x.ev t :: evs t xs
def evParts (t : T) : List (Nat × Nat × Od) → List (Nat × Nat × AV)
  | [] => []
  | (o, n, x) :: xs => (o, n, x.ev t) :: evParts t xs

def evO (t : T) : Option Od → Option AV
  | none => none
  | some x => some (x.ev t)

def numO (d : Nat) : Option AV → Option Nat
  | none => some d
  | some (.i _ (.ofNat n)) => some n
  | some _ => none

def slcAV (sz : Nat) (x : AV) (lo hi : Option AV) : Option AV :=
  match x with
  | .sl k o n cap => match numO 0 lo, numO n hi with
    | some l, some h => if l.ble h && h.ble n then some (.sl k (o + l * sz) (h - l) (if l = h ∧ l ≠ 0 then .any else cap.less l)) else none
    | _, _ => none
  | _ => none

def srcE (H : Hp) (size : Nat) : AV → Option (Nat × List AV)
  | .ns => some (0, [])
  | .sl k o m _ => match H[k]? with
    | some bl => if (o + m * size).ble bl.cells.length && ((bl.cells.drop o).take (m * size)).all AV.isCell then some (m, (bl.cells.drop o).take (m * size)) else none
    | none => none
  | _ => none

def appK {α : Type} (e : TypeId) (size bytes : Nat) (s x : AV) (H : Hp) (k : AV → Hp → Option α) : Option α :=
  match srcE H size x with
  | none => none
  | some (m, new) => match s with
    | .ns => if m = 0 then k .ns H else if (m * max 1 bytes).ble 140737488355328 then
        spineK new fun new => force H.length fun b => spineK (H ++ [⟨e, false, new⟩]) fun H' => forceAV (.sl b 0 m .own) fun v => k v H' else none
    | .sl j 0 n .own => match H[j]? with
      | some bl => if bl.ro = false ∧ bl.ty = e ∧ bl.cells.length = n * size ∧ size ≠ 0 ∧ (n + m) * max 1 bytes ≤ 140737488355328 then
          spineK (bl.cells ++ new) fun cs => force H.length fun b => setCellK H j ⟨e, true, []⟩ fun H' => spineK (H' ++ [⟨e, false, cs⟩]) fun H' => forceAV (.sl b 0 (n + m) .own) fun v => k v H'
        else none
      | none => none
    | _ => none

def storeK {α : Type} (n : Nat) (b o : Nat) (v : AV) (H : Hp) (k : AV → Hp → Option α) : Option α :=
  match H[b]? with
  | none => none
  | some bl => match bl.ro with
    | true => none
    | false => match v with
      | .ag xs => if xs.length = n ∧ o + n ≤ bl.cells.length ∧ xs.all AV.isCell = true then spineK (splice bl.cells o xs) fun cs => setCellK H b ⟨bl.ty, false, cs⟩ fun H' => k .u H' else none
      | v => if n = 1 ∧ v.isCell = true then setCellK bl.cells o v fun cs => setCellK H b ⟨bl.ty, false, cs⟩ fun H' => k .u H' else none

def runJ {α : Type} (call : CallE) (j : J) (t : T) (H : Hp) (k : AV → Hp → Option α) : Option α :=
  match j with
  | .mov x => k (x.ev t) H
  | .pick c x y => match c.ev t with
    | .b true => k (x.ev t) H
    | .b false => k (y.ev t) H
    | _ => none
  | .alloc e z => force H.length fun n => spineK (H ++ [⟨e, false, z⟩]) fun H' => k (.p n 0) H'
  | .box e n x => if (x.ev t).known && (x.ev t).cells.length == n then force H.length fun b => spineK (x.ev t).cells fun cs => spineK (H ++ [⟨e, false, cs⟩]) fun H' => k (.p b 0) H' else none
  | .build z parts => putK ((fillP z (evParts t parts)).map .ag) H k
  | .bslice e n len parts => match fillP (List.replicate n .u) (evParts t parts) with
    | some cs => forceAVs cs fun cs => force H.length fun b => spineK (H ++ [⟨e, false, cs⟩]) fun H' => k (.sl b 0 len .own) H'
    | none => none
  | .mslice e bytes z l c => match l.ev t, c.ev t with
    | .i _ (.ofNat n), .i _ (.ofNat m) => if n = m ∧ n ≤ 16777216 ∧ bytes * n ≤ 281474976710656 then force H.length fun b => spineK (zeros n z) fun cs => spineK (H ++ [⟨e, false, cs⟩]) fun H' => k (.sl b 0 n .own) H' else none
    | _, _ => none
  | .load x agg n => match x.ev t with
    | .p b o => match H[b]? with
      | some bl => match agg with
        | true => if o + n ≤ bl.cells.length then putK (some (.ag ((bl.cells.drop o).take n))) H k else none
        | false => match bl.cells[o]? with
          | some v => k v H
          | none => none
      | none => none
    | _ => none
  | .store x v n => match x.ev t with
    | .p b o => storeK n b o (v.ev t) H k
    | _ => none
  | .nilc x => match x.ev t with
    | .p b o => k (.p b o) H
    | _ => none
  | .bin op sh x y => putK (bin op sh (x.ev t) (y.ev t)) H k
  | .un op x => putK (un op (x.ev t)) H k
  | .conv sh x => putK (conv default { (default : TI) with shape := sh } (x.ev t)) H k
  | .faddr x off => match x.ev t with
    | .p b o => forceAV (.p b (o + off)) fun v => k v H
    | _ => none
  | .field x off agg n => match x.ev t with
    | .ag cs => match agg with
      | true => if off + n ≤ cs.length then putK (some (.ag ((cs.drop off).take n))) H k else none
      | false => match cs[off]? with
        | some v => k v H
        | none => none
    | _ => none
  | .ixs x i sz => match x.ev t, i.ev t with
    | .sl b o n _, .i _ (.ofNat j) => match j.blt n with
      | true => forceAV (.p b (o + j * sz)) fun v => k v H
      | false => none
    | _, _ => none
  | .ixa x i n sz => match x.ev t, i.ev t with
    | .p b o, .i _ (.ofNat j) => match j.blt n with
      | true => forceAV (.p b (o + j * sz)) fun v => k v H
      | false => none
    | _, _ => none
  | .slc sz x lo hi => putK (slcAV sz (x.ev t) (evO t lo) (evO t hi)) H k
  | .ext x j => match x.ev t with
    | .tu vs => match vs[j]? with
      | some v => k v H
      | none => none
    | _ => none
  | .mkf f cap => k (.fn f (evs t cap)) H
  | .len sh x => putK (lenAV sh (x.ev t)) H k
  | .app e n bytes s x => appK e n bytes (s.ev t) (x.ev t) H k
  | .bi b xs => putK (builtinAV b (evs t xs)) H k
  | .call p still xs => match call p (evs t xs) H with
    | some (v, none) => k v H
    | some (v, some b) => match still with
      | true => none
      | false => spineK (H ++ [b]) fun H' => k v H'
    | none => none

def putT {α : Type} (t : T) (d : Option Pth) (v : AV) (k : T → α) : α := match d with
  | some p => t.setK p v k
  | none => k t

def runOps {α : Type} (call : CallE) : List JO → T → Hp → (T → Hp → Option α) → Option α
  | [], t, H, k => k t H
  | o :: rest, t, H, k => match o.guard with
    | none => runJ call o.op t H fun v H => putT t o.dst v fun t => runOps call rest t H k
    | some (d, want) => match t.get d with
      | .b x => if x = want then runJ call o.op t H fun v H => putT t o.dst v fun t => runOps call rest t H k
        else putT t o.dst .u fun t => runOps call rest t H k
      | _ => none

def rounds {α : Type} (body : T → Hp → (Ex → T → Hp → Option α) → Option α) : Nat → T → Hp → (Ex → T → Hp → Option α) → Option α
  | 0, _, _, _ => none
  | n + 1, t, H, k => body t H fun e t H => match e with
    | .normal => rounds body n t H k
    | e => k e t H

def runC {α : Type} (call : CallE) (fuel : Nat) : JC → T → Hp → (Ex → T → Hp → Option α) → Option α
  | .skip, t, H, k => k .normal t H
  | .ret, t, H, k => k .ret t H
  | .exit id, t, H, k => k (.exit id) t H
  | .seq a b, t, H, k => runC call fuel a t H fun e t H => match e with
    | .normal => runC call fuel b t H k
    | e => k e t H
  | .cond c a b, t, H, k => match c.ev t with
    | .b true => runC call fuel a t H k
    | .b false => runC call fuel b t H k
    | _ => none
  | .block id c, t, H, k => runC call fuel c t H fun e t H => match e with
    | .exit i => if i = id then k .normal t H else k (.exit i) t H
    | e => k e t H
  | .loop c, t, H, k => rounds (runC call fuel c) fuel t H k
  | .reg ops, t, H, k => runOps call ops t H fun t H => k .normal t H

def T.ofListK {α : Type} : Nat → List AV → T → (T → α) → α
  | _, [], t, k => k t
  | i, x :: xs, t, k => t.setK (pth i) x fun t => T.ofListK (i + 1) xs t k

inductive JR where
  | tmp (p : Pth) | cell (p : Pth) (agg : Bool) (n : Nat)
  deriving Inhabited

/-- A function that is ready: its code, its results. -/
structure JF where
  nargs : Nat
  code : JC
  res : List JR
  deriving Inhabited

def cRes (P : Program) : List ResultVar → Option (List JR)
  | [] => some []
  | .tmp t :: rest => (cRes P rest).map (.tmp (pth t) :: ·)
  | .cell a t :: rest => match tof P t, cRes P rest with
    | some ti, some rs => some (.cell (pth a) ti.shape.agg ti.size :: rs)
    | _, _ => none

def cFunc (P : Program) (quiet : FuncId → Bool) (fn : Func) (nargs : Nat) : Option JF := match fn.body with
  | none => none
  | some c => match cCode P quiet c, cRes P fn.results.toList with
    | some c, some rs => if fnOK fn nargs then some ⟨nargs, c, rs⟩ else none
    | _, _ => none

def res1 (t : T) (H : Hp) : JR → Option AV
  | .tmp p => some (t.get p)
  | .cell p agg n => match t.get p with
    | .p b o => match H[b]? with
      | some bl => match agg with
        | true => if o + n ≤ bl.cells.length then some (.ag ((bl.cells.drop o).take n)) else none
        | false => bl.cells[o]?
      | none => none
    | _ => none
def resL (t : T) (H : Hp) : List JR → Option (List AV)
  | [] => some []
  | r :: rs => match res1 t H r, resL t H rs with
    | some v, some vs => some (v :: vs)
    | _, _ => none
def resF (t : T) (H : Hp) (rs : List JR) : Option AV := match resL t H rs with
  | some [v] => some v
  | some vs => some (.tu vs)
  | none => none

/-! blocks that values name -/
mutual
def AV.refs : AV → List Nat → List Nat
  | .p k _, l => if l.contains k then l else l ++ [k]
  | .sl k _ _ _, l => if l.contains k then l else l ++ [k]
  | .ag xs, l => AV.refsL xs l
  | .tu xs, l => AV.refsL xs l
  | .fn _ xs, l => AV.refsL xs l
  | _, l => l
def AV.refsL : List AV → List Nat → List Nat
  | [], l => l
  | x :: xs, l => AV.refsL xs (x.refs l)
end

/-- Where a block stands in a list of blocks; behind the list what is not in it. -/
def numOf (l : List Nat) (k : Nat) : Nat := l.idxOf k

mutual
def AV.name (l : List Nat) : AV → AV
  | .p k o => .p (numOf l k) o
  | .sl k o m cap => .sl (numOf l k) o m cap
  | .ag xs => .ag (AV.nameL l xs)
  | .tu xs => .tu (AV.nameL l xs)
  | .fn g xs => .fn g (AV.nameL l xs)
  | v => v
def AV.nameL (l : List Nat) : List AV → List AV
  | [] => []
  | x :: xs => AV.name l x :: AV.nameL l xs
end

mutual
/-- The other way about. -/
def AV.name' (l : List Nat) : AV → AV
  | .p k o => .p (l.getD k 0) o
  | .sl k o m cap => .sl (l.getD k 0) o m cap
  | .ag xs => .ag (AV.nameL' l xs)
  | .tu xs => .tu (AV.nameL' l xs)
  | .fn g xs => .fn g (AV.nameL' l xs)
  | v => v
def AV.nameL' (l : List Nat) : List AV → List AV
  | [] => []
  | x :: xs => AV.name' l x :: AV.nameL' l xs
end

mutual
/-- Is it the other one with its blocks renamed? -/
def renIs (ρ : List Nat) : AV → AV → Bool
  | .p k o, .p k' o' => ρ[k]? == some k' && o == o'
  | .sl k o n c, .sl k' o' n' c' => ρ[k]? == some k' && o == o' && n == n' && c == c'
  | .ag xs, .ag ys => renIsL ρ xs ys
  | .tu xs, .tu ys => renIsL ρ xs ys
  | .fn f xs, .fn g ys => f == g && renIsL ρ xs ys
  | .u, .u => true
  | .b x, .b y => x == y
  | .i k n, .i k' n' => k == k' && n == n'
  | .f k n, .f k' n' => k == k' && n == n'
  | .c k n m, .c k' n' m' => k == k' && n == n' && m == m'
  | .np, .np => true
  | .ns, .ns => true
  | _, _ => false
def renIsL (ρ : List Nat) : List AV → List AV → Bool
  | [], [] => true
  | x :: xs, y :: ys => renIs ρ x y && renIsL ρ xs ys
  | _, _ => false
end

/-- The blocks that a callee looks at. -/
def lendK {α : Type} (H : Hp) : List Nat → (Hp → Option α) → Option α
  | [], k => k []
  | i :: is, k => match H[i]? with
    | some bl => if AV.flats bl.cells then lendK H is fun bs => k (⟨bl.ty, true, bl.cells⟩ :: bs) else none
    | none => none

/-- What a call gives its caller: the blocks that were lent by the caller's numbers, one that is new behind all. -/
def endJ (n base : Nat) (ρ : List Nat) (t : T) (G : Hp) (rs : List JR) : Option Rs :=
  match resF t G rs with
  | none => none
  | some r => if r.flat then some (r, none) else match (AV.refs r []).filter (fun k => n.ble k) with
    | [] => if renIs (List.range n) r r then let v := AV.name' ρ r; if renIs ρ r v then forceAV v fun v => some (v, none) else none else none
    | [k] => match G[k]? with
      | some b => let r' := AV.name (List.range n ++ [k]) r; let v := AV.name' (ρ ++ [base]) r'
        if (!b.ro && AV.flats b.cells) && (renIs (List.range n ++ [k]) r' r && renIs (ρ ++ [base]) r' v) then forceAV v fun v => some (v, some b) else none
      | none => none
    | _ => none

/-- What is known of a function: an answer that is shown otherwise, or its code. -/
inductive Ent where
  | ext (g : List AV → Hp → Option Rs)
  | fn (f : JF)

inductive TT where
  | e | n (v : Option Ent) (l r : TT)

def TT.get : TT → Pth → Option Ent
  | .e, _ => none
  | .n v _ _, .e => v
  | .n _ l _, .l p => l.get p
  | .n _ _ r, .r p => r.get p

def TT.setK {α : Type} (t : TT) (p : Pth) (v : Ent) (k : TT → α) : α := match p, t with
  | .e, .e => k (.n (some v) .e .e)
  | .e, .n _ l r => k (.n (some v) l r)
  | .l p, .e => TT.setK .e p v fun l => k (.n none l .e)
  | .l p, .n w l r => TT.setK l p v fun l => k (.n w l r)
  | .r p, .e => TT.setK .e p v fun r => k (.n none .e r)
  | .r p, .n w l r => TT.setK r p v fun r => k (.n w l r)

def tabK {α : Type} : List (FuncId × Ent) → TT → (TT → α) → α
  | [], t, k => k t
  | (f, v) :: rest, t, k => t.setK (pth f) v fun t => tabK rest t k

def callJ (tab : TT) (fuel : Nat) : Nat → CallE
  | 0 => fun _ _ _ => none
  | d + 1 => fun p args H => match tab.get p with
    | none => none
    | some (.ext g) => g args H
    | some (.fn f) => if args.length = f.nargs then
        let ρ := AV.refsL args []
        let la := AV.nameL ρ args
        if renIsL ρ la args then
          lendK H ρ fun Hl => forceAVs la fun la => T.ofListK 0 la .e fun t => runC (callJ tab fuel d) fuel f.code t Hl fun e t G => match e with
            | .exit _ => none
            | _ => endJ ρ.length H.length ρ t G f.res
        else none
      else none

end Go.Vc

/- The interpreter is right: operations. -/
namespace Go.Vc
open Go

theorem num_pthF : ∀ (f i : Nat), i < f → (pthF f i).num = i
  | 0, _, h => by omega
  | f + 1, i, h => by
    unfold pthF
    by_cases h0 : i = 0
    · simp [h0, Pth.num]
    · rw [if_neg h0]
      by_cases h1 : i % 2 = 1
      · rw [if_pos h1]; simp only [Pth.num]; rw [num_pthF f (i / 2) (by omega)]; omega
      · rw [if_neg h1]; simp only [Pth.num]; rw [num_pthF f (i / 2 - 1) (by omega)]; omega
theorem num_pth (i : Nat) : (pth i).num = i := num_pthF _ _ (Nat.lt_succ_self _)
theorem pth_inj {i j : Nat} (h : pth i = pth j) : i = j := by rw [← num_pth i, ← num_pth j, h]

theorem T.get_val (t : T) : t.get .e = t.val := by cases t <;> rfl
theorem T.get_left (t : T) (p : Pth) : t.get (.l p) = t.left.get p := by cases t <;> simp [T.get, T.left]
theorem T.get_right (t : T) (p : Pth) : t.get (.r p) = t.right.get p := by cases t <;> simp [T.get, T.right]

theorem T.get_set (t : T) (p q : Pth) (v : AV) : (t.set p v).get q = if q = p then v else t.get q := by
  induction p generalizing t q with
  | e => cases q <;> simp [T.set, T.get, T.get_left, T.get_right, T.left, T.right]
  | l p ih => cases q <;> simp [T.set, T.get_val, T.get_left, T.get_right, T.val, T.left, T.right, ih]
  | r p ih => cases q <;> simp [T.set, T.get_val, T.get_left, T.get_right, T.val, T.left, T.right, ih]

theorem T.setK_eq {α : Type} (p : Pth) : ∀ (t : T) (v : AV) (k : T → α), t.setK p v k = k (t.set p v) := by
  induction p with
  | e => intro t v k; cases t <;> simp [T.setK, T.set, T.left, T.right]
  | l p ih => intro t v k; cases t <;> simp [T.setK, T.set, T.left, T.right, T.val, ih]
  | r p ih => intro t v k; cases t <;> simp [T.setK, T.set, T.left, T.right, T.val, ih]

def T.env (t : T) : Env := fun i => t.get (pth i)

theorem T.env_set (t : T) (d : Nat) (v : AV) : (t.set (pth d) v).env = upd t.env (some d) v := by
  funext i
  unfold T.env upd
  rw [T.get_set]
  by_cases h : i = d
  · subst h; simp
  · rw [if_neg (fun e => h (pth_inj e)), if_neg (by simpa using h)]

theorem T.env_at (t : T) (i : Nat) : t.env i = t.get (pth i) := rfl

def putE (t : T) (d : Option Pth) (v : AV) : T := match d with
  | some p => t.set p v
  | none => t
theorem putT_eq {α : Type} (t : T) (d : Option Pth) (v : AV) (k : T → α) : putT t d v k = k (putE t d v) := by
  cases d with
  | none => rfl
  | some p => exact T.setK_eq p t v k
theorem putE_env (t : T) (d : Option Nat) (v : AV) : (putE t (d.map pth) v).env = upd t.env d v := by
  cases d with
  | none => funext i; simp [putE, upd]
  | some d => exact T.env_set t d v

theorem force_eq {α : Type} (x : Nat) (f : Nat → α) : force x f = f x := by cases x <;> rfl
mutual
theorem forceAV_eq {α : Type} : ∀ (x : AV) (f : AV → α), forceAV x f = f x
  | .f k x, f => by simp only [forceAV, force_eq]
  | .c k x y, f => by simp only [forceAV, force_eq]
  | .i k (.ofNat n), f => by simp only [forceAV, force_eq]
  | .i k (.negSucc n), f => by simp only [forceAV, force_eq]
  | .p k o, f => by simp only [forceAV, force_eq]
  | .sl k o n c, f => by simp only [forceAV, force_eq]
  | .b true, f => rfl
  | .b false, f => rfl
  | .ag xs, f => by simp only [forceAV, forceAVs_eq xs]
  | .tu xs, f => by simp only [forceAV, forceAVs_eq xs]
  | .u, f => rfl
  | .s x, f => rfl
  | .np, f => rfl
  | .ns, f => rfl
  | .fn g xs, f => by simp only [forceAV, forceAVs_eq xs]
theorem forceAVs_eq {α : Type} : ∀ (x : List AV) (f : List AV → α), forceAVs x f = f x
  | [], f => rfl
  | x :: xs, f => by simp only [forceAVs, forceAV_eq x, forceAVs_eq xs]
end
theorem spineK_eq {α β : Type} : ∀ (l : List β) (f : List β → α), spineK l f = f l
  | [], _ => rfl
  | x :: xs, f => by simp only [spineK, spineK_eq xs]
theorem setCellK_eq {α β : Type} : ∀ (l : List β) (n : Nat) (v : β) (f : List β → Option α), setCellK l n v f = if n < l.length then f (l.set n v) else none
  | [], n, v, f => by simp [setCellK]
  | x :: xs, 0, v, f => by simp [setCellK]
  | x :: xs, n + 1, v, f => by simp [setCellK, setCellK_eq xs]
theorem putK_some {α : Type} {v : Option AV} {H : Hp} {k : AV → Hp → Option α} {y : α} (h : putK v H k = some y) : ∃ x, v = some x ∧ k x H = some y := by
  unfold putK at h
  split at h
  · rename_i x; rw [forceAV_eq] at h; exact ⟨x, rfl, h⟩
  · cases h

/-! ### making ready -/
theorem cOd_ev {x : Operand} {y : Od} (h : cOd x = some y) (t : T) : y.ev t = ev t.env x := by
  unfold cOd at h
  cases x <;> simp at h <;> subst h <;> rfl
theorem cOds_ev : ∀ {xs : List Operand} {ys : List Od}, cOds xs = some ys → ∀ t : T, evs t ys = xs.map (ev t.env)
  | [], ys, h, t => by simp [cOds] at h; subst h; rfl
  | x :: xs, ys, h, t => by
    simp only [cOds] at h
    split at h
    · rename_i y ys' h1 h2; cases h; simp [evs, cOd_ev h1 t, cOds_ev h2 t]
    · cases h
theorem cParts_ev {place : Nat → Option (Nat × Nat)} (t : T) : ∀ {ps : List (Nat × Operand)} {qs : List (Nat × Nat × Od)}, cParts place ps = some qs → ∀ {cells out : List AV}, fillP cells (evParts t qs) = some out → fillAV place cells (ps.map fun q => (q.1, ev t.env q.2)) = some out
  | [], qs, h, cells, out, hf => by simp [cParts] at h; subst h; simpa [evParts, fillP, fillAV] using hf
  | (i, x) :: ps, qs, h, cells, out, hf => by
    simp only [cParts] at h
    split at h
    · rename_i o n y ys h1 h2 h3
      cases h
      simp only [evParts, fillP] at hf
      split at hf
      · rename_i hc
        simp only [Bool.and_eq_true, beq_iff_eq] at hc
        simp only [List.map_cons, fillAV, h1]
        rw [← cOd_ev h2 t, if_pos ⟨hc.1.1, hc.1.2, Nat.le_of_ble_eq_true hc.2⟩]
        exact cParts_ev t h3 hf
      · cases hf
    · cases h

/-- What is known of calls: an answer, and the new block behind all. -/
def CallOk (P : Program) (call : CallE) : Prop := ∀ p args H v b, call p args H = some (v, b) → ∀ κ : AV → Hp → Prop, κ v (H ++ b.toList) → callVC (CallsTo P) p.num args H κ

theorem numO_some {d n : Nat} {a : Option AV} (h : numO d a = some n) : (a = none ∧ n = d) ∨ ∃ k, a = some (.i k (.ofNat n)) := by
  unfold numO at h
  split at h
  · cases h; exact .inl ⟨rfl, rfl⟩
  · cases h; exact .inr ⟨_, rfl⟩
  · cases h

theorem slc_eq {P : Program} {t e : TypeId} {ti ei : TI} (ht : tof P t = some ti) (hs : ti.shape = .slice e) (he : tof P e = some ei) {x : AV} {lo hi : Option AV} {v : AV}
    (h : slcAV ei.size x lo hi = some v) : sliceAV P t x lo hi none = some v := by
  unfold slcAV at h
  split at h
  · rename_i k o n cap
    split at h
    · rename_i l hh' h1 h2
      split at h
      · rename_i hc
        simp only [Bool.and_eq_true] at hc
        have g1 := Nat.le_of_ble_eq_true hc.1
        have g2 := Nat.le_of_ble_eq_true hc.2
        cases h
        rcases numO_some h1 with ⟨rfl, rfl⟩ | ⟨k1, rfl⟩ <;> rcases numO_some h2 with ⟨rfl, rfl⟩ | ⟨k2, rfl⟩ <;> simp [sliceAV, ht, hs, he, g1, g2]
      · cases h
    · cases h
  · cases h

theorem evO_eq {x : Option Operand} {y : Option Od} (t : T) (h : ∀ a, x = some a → ∃ b, y = some b ∧ cOd a = some b) (hn : x = none → y = none) : evO t y = x.map (ev t.env) := by
  cases x with
  | none => rw [hn rfl]; rfl
  | some a =>
    obtain ⟨b, rfl, hb⟩ := h a rfl
    simp [evO, cOd_ev hb t]

end Go.Vc

/- The interpreter is right: each operation. -/
namespace Go.Vc
open Go

def quietOp (still : Bool) (o : Op) : Bool := opN o || opLoad o || (still && isCall o)

/-- What is read-only stays. -/
def roK (H H' : Hp) : Prop := ∀ (k : Nat) (bl : Blk), H[k]? = some bl → bl.ro = true → H'[k]? = some bl
theorem roK_refl (H : Hp) : roK H H := fun _ _ h _ => h
theorem roK_trans {H H' H'' : Hp} (h : roK H H') (h' : roK H' H'') : roK H H'' := fun k bl e r => h' k bl (h k bl e r) r
theorem roK_app (H N : Hp) : roK H (H ++ N) := fun k bl h _ => by rw [List.getElem?_append_left (List.getElem?_eq_some_iff.1 h).1]; exact h
theorem roK_set {H : Hp} {b : Nat} {bl : Blk} (hb : H[b]? = some bl) (hr : bl.ro = false) (x : Blk) : roK H (H.set b x) := fun k bl' h r => by
  rw [List.getElem?_set]
  by_cases e : b = k
  · subst e; rw [hb] at h; cases h; rw [hr] at r; cases r
  · rw [if_neg e]; exact h

/-- What is known of calls over blocks of which some stay. -/
def CallOkR (P : Program) (H0 : Hp) (call : CallE) : Prop := ∀ p args H v b, roK H0 H → call p args H = some (v, b) → ∀ κ : AV → Hp → Prop, κ v (H ++ b.toList) → callVC (CallsTo P) p.num args H κ
theorem CallOk.r {P : Program} {call : CallE} (h : CallOk P call) (H0 : Hp) : CallOkR P H0 call := fun p args H v b _ e => h p args H v b e

/-- What a run of an operation shows. -/
def Shows (P : Program) (o : Op) (still : Bool) {α : Type} (t : T) (H : Hp) (k : AV → Hp → Option α) (y : α) : Prop :=
  ∃ v H', k v H' = some y ∧ (quietOp still o = true → H' = H) ∧ roK H H' ∧ ∀ κ : AV → Hp → Prop, κ v H' → opV P (CallsTo P) o t.env H κ

variable {P : Program} {α : Type} {H0 : Hp} {call : CallE} {still : Bool} {t : T} {H : Hp} {k : AV → Hp → Option α} {y : α}

theorem sh_put {o : Op} {x : Option AV} (h : putK x H k = some y) (hv : ∀ v, x = some v → ∀ κ : AV → Hp → Prop, κ v H → opV P (CallsTo P) o t.env H κ) : Shows P o still t H k y := by
  obtain ⟨v, h1, h2⟩ := putK_some h
  exact ⟨v, H, h2, fun _ => rfl, roK_refl _, hv v h1⟩

theorem all_len {n : Nat} {cells : List AV} {o : Nat} (h : o + n ≤ cells.length) : ((cells.drop o).take n).length = n := by simp; omega

theorem sh_load {t' : TypeId} {x : Operand} {j : J} (h : cOp P still (.load t' x) = some j) (hr : runJ call j t H k = some y) : Shows P (.load t' x) still t H k y := by
  simp only [cOp] at h
  split at h
  · rename_i ti x' ht hx
    cases h
    simp only [runJ] at hr
    split at hr
    · rename_i b o hv
      rw [cOd_ev hx] at hv
      split at hr
      · rename_i bl hb
        split at hr
        · rename_i ha
          split at hr
          · rename_i hl
            refine sh_put hr fun v e κ hk => ?_
            cases e
            simpa [opV, hv, load, ht, hb, readAt, ha, hl] using hk
          · cases hr
        · rename_i ha
          split at hr
          · rename_i v hc
            refine ⟨v, H, hr, fun _ => rfl, roK_refl _, fun κ hk => ?_⟩
            simpa [opV, hv, load, ht, hb, readAt, ha, hc] using hk
          · cases hr
      · cases hr
    · cases hr
  · cases h

theorem splice_one (cells : List AV) (o : Nat) (v : AV) (h : o < cells.length) : splice cells o [v] = cells.set o v := by
  unfold splice
  rw [List.set_eq_take_append_cons_drop, if_pos h]
  simp

theorem blk_eta (bl : Blk) (h : bl.ro = false) (cs : List AV) : { bl with cells := cs } = (⟨bl.ty, false, cs⟩ : Blk) := by cases bl; cases h; rfl

theorem sh_store {t' : TypeId} {x z : Operand} {j : J} (h : cOp P still (.store t' x z) = some j) (hr : runJ call j t H k = some y) : Shows P (.store t' x z) still t H k y := by
  simp only [cOp] at h
  split at h
  · rename_i ti x' z' ht hx hz
    cases h
    simp only [runJ] at hr
    split at hr
    · rename_i b o hv
      rw [cOd_ev hx] at hv
      rw [cOd_ev hz] at hr
      unfold storeK at hr
      split at hr
      · cases hr
      · rename_i bl hb
        have hlt : b < H.length := (List.getElem?_eq_some_iff.1 hb).1
        split at hr
        · cases hr
        · rename_i hro
          split at hr
          · rename_i xs hw
            split at hr
            · rename_i hc
              rw [spineK_eq, setCellK_eq, if_pos hlt] at hr
              refine ⟨_, _, hr, fun hq => ?_, roK_set hb hro _, fun κ hk => ?_⟩
              · simp [quietOp, opN, opLoad, isCall] at hq
              · have : store P H t' b o (ev t.env z) = some (H.set b ⟨bl.ty, false, splice bl.cells o xs⟩) := by
                  simp only [store, ht, hb, hw]
                  rw [if_pos ⟨hro, hc.1, hc.2.1, hc.2.2⟩, ← blk_eta bl hro]; rfl
                simp only [opV, hv, this]; exact hk
            · cases hr
          · rename_i hw
            split at hr
            · rename_i hc
              rw [setCellK_eq] at hr
              split at hr
              · rename_i ho
                rw [setCellK_eq, if_pos hlt] at hr
                refine ⟨_, _, hr, fun hq => ?_, roK_set hb hro _, fun κ hk => ?_⟩
                · simp [quietOp, opN, opLoad, isCall] at hq
                · have hcell : (ev t.env z).cells = [ev t.env z] := by
                    unfold AV.cells
                    split
                    · rename_i e; exact absurd e (hw _)
                    · rfl
                  have : store P H t' b o (ev t.env z) = some (H.set b ⟨bl.ty, false, bl.cells.set o (ev t.env z)⟩) := by
                    simp only [store, ht, hb, hcell]
                    rw [if_pos ⟨hro, by simp [hc.1], by rw [hc.1]; omega, by simp [hc.2]⟩, ← blk_eta bl hro, splice_one _ _ _ ho]
                  simp only [opV, hv, this]; exact hk
              · cases hr
            · cases hr
    · cases hr
  · cases h

theorem sh_alloc {e : TypeId} {j : J} (h : cOp P still (.alloc e) = some j) (hr : runJ call j t H k = some y) : Shows P (.alloc e) still t H k y := by
  simp only [cOp, Option.map_eq_some_iff] at h
  obtain ⟨ti, ht, rfl⟩ := h
  simp only [runJ, force_eq, spineK_eq] at hr
  exact ⟨_, _, hr, fun hq => by simp [quietOp, opN, opLoad, isCall] at hq, roK_app _ _, fun κ hk => by simpa [opV, ht] using hk⟩

theorem sh_box {e : TypeId} {x : Operand} {j : J} (h : cOp P still (.box e x) = some j) (hr : runJ call j t H k = some y) : Shows P (.box e x) still t H k y := by
  simp only [cOp] at h
  split at h
  · rename_i ti x' ht hx
    cases h
    simp only [runJ, force_eq, spineK_eq] at hr
    rw [cOd_ev hx] at hr
    split at hr
    · rename_i hc
      simp only [Bool.and_eq_true, beq_iff_eq] at hc
      refine ⟨_, _, hr, fun hq => by simp [quietOp, opN, opLoad, isCall] at hq, roK_app _ _, fun κ hk => ?_⟩
      simp only [opV]
      exact ⟨hc.1, fun ti' e => by rw [ht] at e; cases e; exact hc.2, hk⟩
    · cases hr
  · cases h

theorem sh_build {t' : TypeId} {parts : Array (Nat × Operand)} {j : J} (h : cOp P still (.build t' parts) = some j) (hr : runJ call j t H k = some y) : Shows P (.build t' parts) still t H k y := by
  simp only [cOp] at h
  split at h
  · rename_i ti ht
    split at h
    · rename_i fs hs
      obtain ⟨ps, hp, rfl⟩ := Option.map_eq_some_iff.1 h
      simp only [runJ] at hr
      refine sh_put hr fun v e κ hk => ?_
      obtain ⟨cs, h1, rfl⟩ := Option.map_eq_some_iff.1 e
      simp only [opV, ht, hs, cParts_ev t hp h1, Option.map_some]
      exact hk
    · rename_i n e hs
      split at h
      · rename_i ei he
        obtain ⟨ps, hp, rfl⟩ := Option.map_eq_some_iff.1 h
        simp only [runJ] at hr
        refine sh_put hr fun v e κ hk => ?_
        obtain ⟨cs, h1, rfl⟩ := Option.map_eq_some_iff.1 e
        simp only [opV, ht, hs, he, cParts_ev t hp h1, Option.map_some]
        exact hk
      · cases h
    · cases h
  · cases h

theorem sh_bslice {t' : TypeId} {len : Nat} {parts : Array (Nat × Operand)} {j : J} (h : cOp P still (.buildSlice t' len parts) = some j) (hr : runJ call j t H k = some y) : Shows P (.buildSlice t' len parts) still t H k y := by
  simp only [cOp] at h
  split at h
  · rename_i ti ht
    split at h
    · rename_i e hs
      split at h
      · rename_i ei he
        split at h
        · rename_i hc
          obtain ⟨ps, hp, rfl⟩ := Option.map_eq_some_iff.1 h
          simp only [runJ] at hr
          split at hr
          · rename_i cs h1
            simp only [forceAVs_eq, force_eq, spineK_eq] at hr
            refine ⟨_, _, hr, fun hq => by simp [quietOp, opN, opLoad, isCall] at hq, roK_app _ _, fun κ hk => ?_⟩
            simp only [opV, ht, hs, he, cParts_ev t hp h1]
            exact ⟨hc, hk⟩
          · cases hr
        · cases h
      · cases h
    · cases h
  · cases h

theorem sh_mslice {t' : TypeId} {l c : Operand} {j : J} (h : cOp P still (.makeSlice t' l c) = some j) (hr : runJ call j t H k = some y) : Shows P (.makeSlice t' l c) still t H k y := by
  simp only [cOp] at h
  split at h
  · rename_i ti l' c' ht hl hc
    split at h
    · rename_i e hs
      split at h
      · rename_i ei he
        cases h
        simp only [runJ] at hr
        split at hr
        · rename_i kk n kk' m e1 e2
          rw [cOd_ev hl] at e1
          rw [cOd_ev hc] at e2
          split at hr
          · rename_i hh
            obtain ⟨rfl, h2, h3⟩ := hh
            simp only [force_eq, spineK_eq] at hr
            refine ⟨_, _, hr, fun hq => by simp [quietOp, opN, opLoad, isCall] at hq, roK_app _ _, fun κ hk => ?_⟩
            simp only [opV, ht, hs, he, e1, e2]
            refine ⟨⟨trivial, by simp, by simpa using Int.ofNat_le.2 h2, ?_⟩, by simpa using hk⟩
            have := Int.ofNat_le.2 h3
            simpa using this
          · cases hr
        · cases hr
      · cases h
    · cases h
  · cases h

theorem sh_field {t' : TypeId} {x : Operand} {i : Nat} {j : J} (h : cOp P still (.field t' x i) = some j) (hr : runJ call j t H k = some y) : Shows P (.field t' x i) still t H k y := by
  simp only [cOp] at h
  split at h
  · rename_i ti x' ht hx
    split at h
    · rename_i fs hs
      split at h
      · rename_i off ft hf
        split at h
        · rename_i fi hi
          cases h
          simp only [runJ] at hr
          split at hr
          · rename_i cs hv
            rw [cOd_ev hx] at hv
            split at hr
            · rename_i ha
              split at hr
              · rename_i hl
                refine sh_put hr fun v e κ hk => ?_
                cases e
                simpa [opV, ht, hv, hs, hf, hi, readAt, ha, hl] using hk
              · cases hr
            · rename_i ha
              split at hr
              · rename_i v hc
                refine ⟨v, H, hr, fun _ => rfl, roK_refl _, fun κ hk => ?_⟩
                simpa [opV, ht, hv, hs, hf, hi, readAt, ha, hc] using hk
              · cases hr
          · cases hr
        · cases h
      · cases h
    · cases h
  · cases h

theorem sh_faddr {t' : TypeId} {x : Operand} {i : Nat} {j : J} (h : cOp P still (.fieldAddr t' x i) = some j) (hr : runJ call j t H k = some y) : Shows P (.fieldAddr t' x i) still t H k y := by
  simp only [cOp] at h
  split at h
  · rename_i ti x' ht hx
    split at h
    · rename_i fs hs
      split at h
      · rename_i off ft hf
        split at h
        · rename_i fi hi
          split at h
          · cases h
          · rename_i hz
            cases h
            simp only [runJ] at hr
            split at hr
            · rename_i b o hv
              rw [cOd_ev hx] at hv
              rw [forceAV_eq] at hr
              refine ⟨_, H, hr, fun _ => rfl, roK_refl _, fun κ hk => ?_⟩
              simp only [opV, ht, hv, hs, hf, hi]
              exact ⟨hz, hk⟩
            · cases hr
        · cases h
      · cases h
    · cases h
  · cases h

theorem sh_index {t' : TypeId} {x i : Operand} {j : J} (h : cOp P still (.indexAddr t' x i) = some j) (hr : runJ call j t H k = some y) : Shows P (.indexAddr t' x i) still t H k y := by
  simp only [cOp] at h
  split at h
  · rename_i ti x' i' ht hx hi
    split at h
    · rename_i e hs
      split at h
      · rename_i ei he
        cases h
        simp only [runJ] at hr
        split at hr
        · rename_i b o n cap kk jj e1 e2
          rw [cOd_ev hx] at e1
          rw [cOd_ev hi] at e2
          split at hr
          · rename_i hb
            rw [forceAV_eq] at hr
            refine ⟨_, H, hr, fun _ => rfl, roK_refl _, fun κ hk => ?_⟩
            have : jj < n := by simpa [Nat.blt_eq] using hb
            simp only [opV, ht, e1, e2, hs, he]
            exact ⟨⟨by simp, by simpa using this⟩, by simpa using hk⟩
          · cases hr
        · cases hr
      · cases h
    · rename_i n e hs
      split at h
      · rename_i ei he
        cases h
        simp only [runJ] at hr
        split at hr
        · rename_i b o kk jj e1 e2
          rw [cOd_ev hx] at e1
          rw [cOd_ev hi] at e2
          split at hr
          · rename_i hb
            rw [forceAV_eq] at hr
            refine ⟨_, H, hr, fun _ => rfl, roK_refl _, fun κ hk => ?_⟩
            have : jj < n := by simpa [Nat.blt_eq] using hb
            simp only [opV, ht, e1, e2, hs, he]
            exact ⟨⟨by simp, by simpa using this⟩, by simpa using hk⟩
          · cases hr
        · cases hr
      · cases h
    · cases h
  · cases h

theorem sh_slice {t' : TypeId} {x : Operand} {lo hi mx : Option Operand} {j : J} (h : cOp P still (.slice t' x lo hi mx) = some j) (hr : runJ call j t H k = some y) : Shows P (.slice t' x lo hi mx) still t H k y := by
  cases mx with
  | some m => simp [cOp] at h
  | none =>
    simp only [cOp] at h
    split at h
    · rename_i ti x' ht hx
      split at h
      · rename_i e hs
        split at h
        · rename_i ei he
          have fin : ∀ (lo' hi' : Option Od), evO t lo' = lo.map (ev t.env) → evO t hi' = hi.map (ev t.env) → runJ call (.slc ei.size x' lo' hi') t H k = some y → Shows P (.slice t' x lo hi none) still t H k y := by
            intro lo' hi' h1 h2 hr
            simp only [runJ] at hr
            refine sh_put hr fun v e κ hk => ?_
            rw [cOd_ev hx, h1, h2] at e
            simp only [opV, Option.map_none, slc_eq ht hs he e]
            exact hk
          split at h
          · cases h; exact fin _ _ rfl rfl hr
          · obtain ⟨l, hl, rfl⟩ := Option.map_eq_some_iff.1 h
            exact fin _ _ (by simp [evO, cOd_ev hl]) rfl hr
          · obtain ⟨l, hl, rfl⟩ := Option.map_eq_some_iff.1 h
            exact fin _ _ rfl (by simp [evO, cOd_ev hl]) hr
          · split at h
            · rename_i l' h' hl hh
              cases h
              exact fin _ _ (by simp [evO, cOd_ev hl]) (by simp [evO, cOd_ev hh]) hr
            · cases h
        · cases h
      · cases h
    · cases h

theorem srcE_eq {size : Nat} {x : AV} {r : Nat × List AV} (h : srcE H size x = some r) : srcAV H size x = some r := by
  unfold srcE at h
  split at h
  · cases h; rfl
  · split at h
    · rename_i bl hb
      split at h
      · rename_i hc
        cases h
        simp only [Bool.and_eq_true] at hc
        simp only [srcAV, hb]
        rw [if_pos ⟨Nat.le_of_ble_eq_true hc.1, hc.2⟩]
      · cases h
    · cases h
  · cases h

theorem appK_eq {t' e : TypeId} {ti ei : TI} (ht : tof P t' = some ti) (hs : ti.shape = .slice e) (he : tof P e = some ei) {s x : AV} (h : appK e ei.size ei.bytes s x H k = some y) :
    ∃ v H' by_, appendAV P H t' s x = some (v, H', by_) ∧ by_ ≤ 140737488355328 ∧ roK H H' ∧ k v H' = some y := by
  unfold appK at h
  split at h
  · cases h
  · rename_i m new hsrc
    have hsrc' := srcE_eq hsrc
    split at h
    · split at h
      · rename_i hm
        exact ⟨_, _, _, by simp only [appendAV, ht, hs, he, hsrc']; rw [if_pos hm], by simp, roK_refl _, h⟩
      · rename_i hm
        split at h
        · rename_i hb
          simp only [spineK_eq, force_eq, forceAV_eq] at h
          exact ⟨_, _, _, by simp only [appendAV, ht, hs, he, hsrc']; rw [if_neg hm], Nat.le_of_ble_eq_true hb, roK_app _ _, h⟩
        · cases h
    · rename_i j n
      split at h
      · rename_i bl hb
        have hlt : j < H.length := (List.getElem?_eq_some_iff.1 hb).1
        split at h
        · rename_i hc
          rw [spineK_eq, force_eq, setCellK_eq, if_pos hlt, spineK_eq, forceAV_eq] at h
          exact ⟨_, _, _, by simp only [appendAV, ht, hs, he, hsrc', hb]; rw [if_pos ⟨hc.1, hc.2.1, hc.2.2.1, hc.2.2.2.1⟩], hc.2.2.2.2, roK_trans (roK_set hb hc.1 _) (roK_app _ _), h⟩
        · cases h
      · cases h
    · cases h

theorem conv_sh (si di : TI) (x : AV) : conv default { (default : TI) with shape := di.shape } x = conv si di x := rfl

theorem sh_call {ci : Call} {j : J} (hc : CallOkR P H0 call) (hH : roK H0 H) (h : cOp P still (.call ci) = some j) (hr : runJ call j t H k = some y) : Shows P (.call ci) still t H k y := by
  obtain ⟨callee, as, ts⟩ := ci
  cases callee with
  | builtin bi =>
    have fin : ∀ (ys : List Od), cOds as.toList = some ys → (bi = .real ∨ bi = .imag ∨ bi = .complex ∨ bi = .max) → runJ call (.bi bi ys) t H k = some y → Shows P (.call ⟨.builtin bi, as, ts⟩) still t H k y := by
      intro ys hys hb hr
      simp only [runJ] at hr
      refine sh_put hr fun v e κ hk => ?_
      rw [cOds_ev hys] at e
      rcases hb with rfl | rfl | rfl | rfl <;> (simp only [opV, e]; exact hk)
    simp only [cOp] at h
    split at h
    · rename_i x t' h1 h2
      split at h
      · rename_i ti x' ht hx
        cases h
        simp only [runJ] at hr
        refine sh_put hr fun v e κ hk => ?_
        rw [cOd_ev hx] at e
        simp only [opV, h1, h2, ht, e]
        exact hk
      · cases h
    · rename_i s x t1 t2 h1 h2
      split at h
      · rename_i e12
        split at h
        · rename_i ti s' x' ht hs hx
          split at h
          · rename_i e hsh
            split at h
            · rename_i ei he
              cases h
              simp only [runJ] at hr
              rw [cOd_ev hs, cOd_ev hx] at hr
              obtain ⟨v, H', by_, g1, g2, gr, g3⟩ := appK_eq ht hsh he hr
              refine ⟨v, H', g3, fun hq => by simp [quietOp, opN, opLoad, isCall] at hq, gr, fun κ hk => ?_⟩
              simp only [opV, h1, h2, g1]
              rw [if_pos e12]
              exact ⟨g2, hk⟩
            · cases h
          · cases h
        · cases h
      · cases h
    · obtain ⟨ys, hys, rfl⟩ := Option.map_eq_some_iff.1 h; exact fin ys hys (by simp) hr
    · obtain ⟨ys, hys, rfl⟩ := Option.map_eq_some_iff.1 h; exact fin ys hys (by simp) hr
    · obtain ⟨ys, hys, rfl⟩ := Option.map_eq_some_iff.1 h; exact fin ys hys (by simp) hr
    · obtain ⟨ys, hys, rfl⟩ := Option.map_eq_some_iff.1 h; exact fin ys hys (by simp) hr
    · cases h
  | value g =>
    cases g with
    | func f =>
      simp only [cOp] at h
      obtain ⟨ys, hys, rfl⟩ := Option.map_eq_some_iff.1 h
      simp only [runJ] at hr
      rw [cOds_ev hys] at hr
      have main : ∀ v b, call (pth f) (as.toList.map (ev t.env)) H = some (v, b) → ∀ κ : AV → Hp → Prop, κ v (H ++ b.toList) → opV P (CallsTo P) (.call ⟨.value (.func f), as, ts⟩) t.env H κ := by
        intro v b hcall κ hk
        have := hc _ _ _ _ _ hH hcall κ hk
        rw [num_pth] at this
        simpa [opV, ev] using this
      split at hr
      · rename_i v hcall
        refine ⟨v, H, hr, fun _ => rfl, roK_refl _, fun κ hk => main v none hcall κ (by simpa using hk)⟩
      · rename_i v b hcall
        split at hr
        · cases hr
        · rename_i hst
          rw [spineK_eq] at hr
          exact ⟨v, _, hr, fun hq => by simp [quietOp, opN, opLoad] at hq, roK_app _ _, fun κ hk => main v (some b) hcall κ (by simpa using hk)⟩
      · cases hr
    | _ => simp [cOp] at h
  | _ => simp [cOp] at h

theorem runJ_sound {o : Op} {j : J} (hc : CallOkR P H0 call) (hH : roK H0 H) (h : cOp P still o = some j) (hr : runJ call j t H k = some y) : Shows P o still t H k y := by
  cases o with
  | load t' x => exact sh_load h hr
  | store t' x z => exact sh_store h hr
  | alloc e => exact sh_alloc h hr
  | box e x => exact sh_box h hr
  | build t' parts => exact sh_build h hr
  | buildSlice t' len parts => exact sh_bslice h hr
  | makeSlice t' l c => exact sh_mslice h hr
  | field t' x i => exact sh_field h hr
  | fieldAddr t' x i => exact sh_faddr h hr
  | indexAddr t' x i => exact sh_index h hr
  | slice t' x lo hi mx => exact sh_slice h hr
  | call ci => exact sh_call hc hH h hr
  | move x =>
    obtain ⟨x', hx, rfl⟩ := Option.map_eq_some_iff.1 (by simpa only [cOp] using h)
    simp only [runJ, cOd_ev hx] at hr
    exact ⟨_, H, hr, fun _ => rfl, roK_refl _, fun κ hk => by simpa only [opV] using hk⟩
  | assign x =>
    obtain ⟨x', hx, rfl⟩ := Option.map_eq_some_iff.1 (by simpa only [cOp] using h)
    simp only [runJ, cOd_ev hx] at hr
    exact ⟨_, H, hr, fun _ => rfl, roK_refl _, fun κ hk => by simpa only [opV] using hk⟩
  | pick c x z =>
    simp only [cOp] at h
    split at h
    · rename_i c' x' z' h1 h2 h3
      cases h
      simp only [runJ, cOd_ev h1, cOd_ev h2, cOd_ev h3] at hr
      split at hr
      · rename_i e; exact ⟨_, H, hr, fun _ => rfl, roK_refl _, fun κ hk => by simpa [opV, e] using hk⟩
      · rename_i e; exact ⟨_, H, hr, fun _ => rfl, roK_refl _, fun κ hk => by simpa [opV, e] using hk⟩
      · cases hr
    · cases h
  | nilCheck x =>
    obtain ⟨x', hx, rfl⟩ := Option.map_eq_some_iff.1 (by simpa only [cOp] using h)
    simp only [runJ, cOd_ev hx] at hr
    split at hr
    · rename_i e; exact ⟨_, H, hr, fun _ => rfl, roK_refl _, fun κ hk => by simpa only [opV, e] using hk⟩
    · cases hr
  | binOp op t' x z u =>
    simp only [cOp] at h
    split at h
    · rename_i x' z' h1 h2
      cases h
      simp only [runJ] at hr
      refine sh_put hr fun v e κ hk => ?_
      rw [cOd_ev h1, cOd_ev h2] at e
      simp only [opV, e]; exact hk
    · cases h
  | unOp op t' x =>
    obtain ⟨x', hx, rfl⟩ := Option.map_eq_some_iff.1 (by simpa only [cOp] using h)
    simp only [runJ] at hr
    refine sh_put hr fun v e κ hk => ?_
    rw [cOd_ev hx] at e
    simp only [opV, e]; exact hk
  | convert s d x =>
    simp only [cOp] at h
    split at h
    · rename_i si di x' h1 h2 h3
      cases h
      simp only [runJ] at hr
      refine sh_put hr fun v e κ hk => ?_
      rw [cOd_ev h3, conv_sh si di] at e
      simp only [opV, h1, h2, e]; exact hk
    · cases h
  | extract x i =>
    obtain ⟨x', hx, rfl⟩ := Option.map_eq_some_iff.1 (by simpa only [cOp] using h)
    simp only [runJ, cOd_ev hx] at hr
    split at hr
    · rename_i vs e
      split at hr
      · rename_i v hv; exact ⟨_, H, hr, fun _ => rfl, roK_refl _, fun κ hk => by simpa only [opV, e, hv] using hk⟩
      · cases hr
    · cases hr
  | makeFunc g first cap =>
    cases g with
    | func f =>
      simp only [cOp] at h
      split at h
      · rename_i hz
        obtain ⟨ys, hys, rfl⟩ := Option.map_eq_some_iff.1 h
        simp only [runJ, cOds_ev hys] at hr
        exact ⟨_, H, hr, fun _ => rfl, roK_refl _, fun κ hk => by simpa only [opV, if_pos hz] using hk⟩
      · cases h
    | _ => simp [cOp] at h
  | _ => simp [cOp] at h

end Go.Vc

/- The interpreter is right: code. -/
namespace Go.Vc
open Go

set_option linter.unusedVariables false
variable {P : Program} {Φ : Contract}

theorem guardVC_mono {ops : Array Oper} {o : Oper} {σ : Env} {a b a' b' : Prop} (h : guardVC ops o σ a b) (ha : a → a') (hb : b → b') : guardVC ops o σ a' b' := by
  unfold guardVC at h ⊢
  split
  · rename_i e; simp only [e] at h; exact ha h
  · rename_i j want e
    simp only [e] at h
    split
    · rename_i d e2
      simp only [e2] at h
      split
      · rename_i x e3; simp only [e3] at h; exact ⟨fun q => ha (h.1 q), fun q => hb (h.2 q)⟩
      · rename_i e3
        split at h
        · rename_i x e4; exact absurd e4 (e3 x)
        · exact h
    · rename_i e2; simp only [e2] at h

theorem opsVC_mono {ops : Array Oper} : ∀ (l : List Oper) {σ : Env} {H : Hp} {K K' : Env → Hp → Prop}, opsVC P Φ ops l σ H K → (∀ σ H, K σ H → K' σ H) → opsVC P Φ ops l σ H K'
  | [], _, _, _, _, h, hk => hk _ _ h
  | o :: rest, σ, H, K, K', h, hk => guardVC_mono h (fun h => opV_mono h fun v G h => opsVC_mono rest h hk) (fun h => opsVC_mono rest h hk)

theorem opsD_mono {ops : Array Oper} {pm lk : List Nat} : ∀ (l : List Oper) {i : Nat} {hs : List (Nat × Hp)} {ps : List (Nat × Oper × Env × AV)} {σ : Env} {H : Hp} {K K' : Env → Hp → Prop}, opsD P Φ ops pm lk i l hs ps σ H K → (∀ σ H, K σ H → K' σ H) → opsD P Φ ops pm lk i l hs ps σ H K'
  | [], _, _, _, _, _, _, _, h, hk => hk _ _ h
  | o :: rest, i, hs, ps, σ, H, K, K', h, hk => gV_mono h fun v G h => by
    by_cases h1 : opN o.op = true
    · rw [if_pos h1] at h ⊢; exact opsD_mono rest h hk
    · rw [if_neg h1] at h ⊢
      by_cases h2 : isL lk i o = true
      · rw [if_pos h2] at h ⊢; exact ⟨h.1, h.2.1, opsD_mono rest h.2.2 hk⟩
      · rw [if_neg h2] at h ⊢; exact ⟨h.1, opsD_mono rest h.2 hk⟩

theorem vc_mono : ∀ (c : Code) {σ : Env} {H : Hp} {K K' : Ex → Env → Hp → Prop}, vc P Φ c σ H K → (∀ e σ H, K e σ H → K' e σ H) → vc P Φ c σ H K'
  | .skip, _, _, _, _, h, hk => hk _ _ _ h
  | .exit _, _, _, _, _, h, hk => hk _ _ _ h
  | .ret, _, _, _, _, h, hk => hk _ _ _ h
  | .region _ _ false, _, _, _, _, h, hk => opsVC_mono _ h fun σ H h => hk _ _ _ h
  | .region _ _ true, _, _, _, _, h, hk => by
    obtain ⟨lk, h1, h2⟩ := h
    exact ⟨lk, h1, opsD_mono _ h2 fun σ H h => hk _ _ _ h⟩
  | .seq a b, _, _, _, _, h, hk => vc_mono a h fun e σ H h => by
    cases e with
    | normal => exact vc_mono b h hk
    | exit _ => exact hk _ _ _ h
    | ret => exact hk _ _ _ h
  | .cond c a b, σ, H, K, K', h, hk => by
    simp only [vc] at h ⊢
    split
    · rename_i t e; simp only [e] at h; exact ⟨fun q => vc_mono a (h.1 q) hk, fun q => vc_mono b (h.2 q) hk⟩
    · rename_i e
      split at h
      · rename_i t e'; exact absurd e' (e t)
      · exact h
  | .block id c, σ, H, K, K', h, hk => vc_mono c h fun e σ H h => by
    by_cases q : e = .exit id
    · rw [if_pos q] at h ⊢; exact hk _ _ _ h
    · rw [if_neg q] at h ⊢; exact hk _ _ _ h
  | .loop c, σ, H, K, K', h, hk => by
    obtain ⟨I, h1, h2⟩ := h
    refine ⟨I, h1, fun σ' H' n hI => vc_mono c (h2 σ' H' n hI) fun e σ H h => ?_⟩
    cases e with
    | normal => exact h
    | exit _ => exact hk _ _ _ h
    | ret => exact hk _ _ _ h
  | .rangeFunc .., _, _, _, _, h, _ => h.elim
  | .scope _, _, _, _, _, h, _ => h.elim
  | .label _, _, _, _, _, h, _ => h.elim
  | .goto _, _, _, _, _, h, _ => h.elim
  | .refuse _, _, _, _, _, h, _ => h.elim

variable {α : Type} {H0 : Hp} {call : CallE}

/-- One operation with its guard. -/
theorem oper_sound (hc : CallOkR P H0 call) {ops : Array Oper} {still : Bool} {o : Oper} {j : JO} (hj : cOper P ops still o = some j) {t : T} {H : Hp} (hH : roK H0 H) {k : T → Hp → Option α} {y : α}
    (hr : (match j.guard with
      | none => runJ call j.op t H fun v H => putT t j.dst v fun t => k t H
      | some (d, want) => match t.get d with
        | .b x => if x = want then runJ call j.op t H fun v H => putT t j.dst v fun t => k t H else putT t j.dst .u fun t => k t H
        | _ => none) = some y) :
    ∃ v H', k (putE t (o.dst.map pth) v) H' = some y ∧ (quietOp still o.op = true → H' = H) ∧ roK H H' ∧ ∀ κ : AV → Hp → Prop, κ v H' → gV P (CallsTo P) ops o t.env H κ := by
  simp only [putT_eq] at hr
  unfold cOper at hj
  split at hj
  · cases hj
  · rename_i jj hop
    split at hj
    · rename_i hg
      cases hj
      obtain ⟨v, H', h1, h2, hro, h3⟩ := runJ_sound hc hH hop hr
      exact ⟨v, H', h1, h2, hro, fun κ hk => by unfold gV guardVC; rw [hg]; exact h3 κ hk⟩
    · rename_i g want hg
      split at hj
      · rename_i d hd
        cases hj
        simp only at hr
        split at hr
        · rename_i x hx
          split at hr
          · rename_i hw
            obtain ⟨v, H', h1, h2, hro, h3⟩ := runJ_sound hc hH hop hr
            refine ⟨v, H', h1, h2, hro, fun κ hk => ?_⟩
            unfold gV guardVC
            simp only [hg, hd, T.env_at, hx]
            exact ⟨fun _ => h3 κ hk, fun e => by rw [hw] at e; cases want <;> simp at e⟩
          · rename_i hw
            refine ⟨.u, H, hr, fun _ => rfl, roK_refl _, fun κ hk => ?_⟩
            unfold gV guardVC
            simp only [hg, hd, T.env_at, hx]
            exact ⟨fun e => absurd e hw, fun _ => hk⟩
        · cases hr
      · cases hj

theorem ops_run (hc : CallOkR P H0 call) {ops : Array Oper} : ∀ (l : List Oper) {js : List JO}, cOpers P ops l = some js → ∀ {t : T} {H : Hp}, roK H0 H → ∀ {k : T → Hp → Option α} {y : α}, runOps call js t H k = some y →
    ∃ t' H', k t' H' = some y ∧ roK H H' ∧ ∀ K : Env → Hp → Prop, K t'.env H' → opsVC P (CallsTo P) ops l t.env H K
  | [], js, hj, t, H, hH, k, y, hr => by simp [cOpers] at hj; subst hj; exact ⟨t, H, hr, roK_refl _, fun K hk => hk⟩
  | o :: rest, js, hj, t, H, hH, k, y, hr => by
    simp only [cOpers] at hj
    split at hj
    · rename_i j js' h1 h2
      cases hj
      obtain ⟨v, H', g1, -, r1, g3⟩ := oper_sound (k := fun t H => runOps call js' t H k) hc h1 hH hr
      obtain ⟨t', H'', g4, r2, g5⟩ := ops_run hc rest h2 (roK_trans hH r1) g1
      refine ⟨t', H'', g4, roK_trans r1 r2, fun K hk => ?_⟩
      have := g3 (fun v G => opsVC P (CallsTo P) ops rest (upd t.env o.dst v) G K) (by rw [← putE_env]; exact g5 K hk)
      exact this
    · cases hj

theorem lmRow_at {pm lk : List Nat} {i : Nat} {y : Oper} : ∀ (l : List Oper) (b : Nat), lmRow pm lk i y b l = true → ∀ (j : Nat) (x : Oper), l[j]? = some x → b + j < i → behind pm i (b + j) = true ∨ (!((isL lk i y && isM lk (b + j) x) || (isM lk i y && isL lk (b + j) x))) = true
  | [], _, _, j, x, hx, _ => by simp at hx
  | a :: l, b, h, j, x, hx, hlt => by
    simp only [lmRow, Bool.and_eq_true] at h
    cases j with
    | zero =>
      simp at hx; subst hx
      have := h.1
      rw [if_pos (by simpa using hlt), Bool.or_eq_true] at this
      exact this
    | succ j =>
      have := lmRow_at l (b + 1) h.2 j x (by simpa using hx) (by omega)
      rwa [show b + 1 + j = b + (j + 1) from by omega] at this
theorem lmAll_at {pm lk : List Nat} {all : List Oper} : ∀ (l : List Oper) (b : Nat), lmAll pm lk all b l = true → ∀ (i : Nat) (y : Oper), l[i]? = some y → lmRow pm lk (b + i) y 0 all = true
  | [], _, _, i, y, hy => by simp at hy
  | a :: l, b, h, i, y, hy => by
    simp only [lmAll, Bool.and_eq_true] at h
    cases i with
    | zero => simp at hy; subst hy; exact h.1
    | succ i =>
      have := lmAll_at l (b + 1) h.2 i y (by simpa using hy)
      rwa [show b + 1 + i = b + (i + 1) from by omega] at this

theorem opsD_runs (hc : CallOkR P H0 call) {ops : Array Oper} {pm lk : List Nat} {all : List Oper} (hlm : lmAll pm lk all 0 all = true) : ∀ (l : List Oper) (i : Nat), all.drop i = l → ∀ {js : List JO}, cOpersD P ops lk i l = some js → ∀ {hs : List (Nat × Hp)} {ps : List (Nat × Oper × Env × AV)},
    (∀ h ∈ hs, h.1 < i ∧ ∃ x, all[h.1]? = some x ∧ isM lk h.1 x = true) → (∀ p ∈ ps, p.1 < i ∧ ∃ x, all[p.1]? = some x ∧ isL lk p.1 x = true) →
    ∀ {t : T} {H : Hp}, roK H0 H → ∀ {k : T → Hp → Option α} {y : α}, runOps call js t H k = some y →
    ∃ t' H', k t' H' = some y ∧ roK H H' ∧ ∀ K : Env → Hp → Prop, K t'.env H' → opsD P (CallsTo P) ops pm lk i l hs ps t.env H K
  | [], i, _, js, hj, hs, ps, _, _, t, H, hH, k, y, hr => by simp [cOpersD] at hj; subst hj; exact ⟨t, H, hr, roK_refl _, fun K hk => hk⟩
  | o :: rest, i, hd, js, hj, hs, ps, hhs, hps, t, H, hH, k, y, hr => by
    simp only [cOpersD] at hj
    split at hj
    · rename_i j js' h1 h2
      split at hj
      · cases hj
      · rename_i hcall
        cases hj
        have hi : all[i]? = some o := by
          have := congrArg (·[0]?) hd
          simpa using this
        have hd' : all.drop (i + 1) = rest := by
          have := congrArg (List.drop 1) hd
          simpa [List.drop_drop, Nat.add_comm] using this
        have hrow := fun (j : Nat) (x : Oper) (hx : all[j]? = some x) (hlt : j < i) => by
          have e := lmAll_at all 0 hlm i o hi
          rw [Nat.zero_add] at e
          have := lmRow_at all 0 e j x hx (by omega)
          rwa [Nat.zero_add] at this
        obtain ⟨v, H', g1, g2, r1, g3⟩ := oper_sound (k := fun t H => runOps call js' t H k) hc h1 hH hr
        by_cases hN : opN o.op = true
        · obtain ⟨t', H'', g4, r2, g5⟩ := opsD_runs hc hlm rest (i + 1) hd' h2 (hs := hs) (ps := ps) (fun h hh => ⟨by have := (hhs h hh).1; omega, (hhs h hh).2⟩) (fun h hh => ⟨by have := (hps h hh).1; omega, (hps h hh).2⟩) (roK_trans hH r1) g1
          refine ⟨t', H'', g4, roK_trans r1 r2, fun K hk => g3 _ ?_⟩
          rw [if_pos hN, ← putE_env]
          exact g5 K hk
        · by_cases hL : isL lk i o = true
          · have hq : quietOp (lk.contains i) o.op = true := by
              unfold isL at hL
              unfold quietOp
              simp only [Bool.or_eq_true] at hL ⊢
              rcases hL with hL | hL
              · exact .inl (.inr hL)
              · rw [hL] at hcall ⊢
                exact .inr (by simpa using hcall)
            have hH := g2 hq
            subst hH
            obtain ⟨t', H'', g4, r2, g5⟩ := opsD_runs hc hlm rest (i + 1) hd' h2 (hs := hs) (ps := (i, o, t.env, v) :: ps) (fun h hh => ⟨by have := (hhs h hh).1; omega, (hhs h hh).2⟩)
              (fun p hp => by
                rcases List.mem_cons.1 hp with rfl | hp
                · exact ⟨by simp, o, hi, hL⟩
                · exact ⟨by have := (hps p hp).1; omega, (hps p hp).2⟩) (roK_trans hH r1) g1
            refine ⟨t', H'', g4, roK_trans r1 r2, fun K hk => g3 _ ?_⟩
            rw [if_neg hN, if_pos hL, ← putE_env]
            refine ⟨rfl, fun h hh hb => ?_, g5 K hk⟩
            obtain ⟨q1, x, q2, q3⟩ := hhs h hh
            rcases hrow h.1 x q2 q1 with e | e
            · rw [hb] at e; cases e
            · rw [hL, q3] at e; simp at e
          · have hM : isM lk i o = true := by simp [isM, hN, hL]
            obtain ⟨t', H'', g4, r2, g5⟩ := opsD_runs hc hlm rest (i + 1) hd' h2 (hs := (i, H) :: hs) (ps := ps)
              (fun p hp => by
                rcases List.mem_cons.1 hp with rfl | hp
                · exact ⟨by simp, o, hi, hM⟩
                · exact ⟨by have := (hhs p hp).1; omega, (hhs p hp).2⟩) (fun h hh => ⟨by have := (hps h hh).1; omega, (hps h hh).2⟩) (roK_trans hH r1) g1
            refine ⟨t', H'', g4, roK_trans r1 r2, fun K hk => g3 _ ?_⟩
            rw [if_neg hN, if_neg hL, ← putE_env]
            refine ⟨fun p hp hb => ?_, g5 K hk⟩
            obtain ⟨q1, x, q2, q3⟩ := hps p hp
            rcases hrow p.1 x q2 q1 with e | e
            · rw [hb] at e; cases e
            · rw [hM, q3] at e; simp at e
    · cases hj

theorem code_run (hc : CallOkR P H0 call) {quiet : FuncId → Bool} {fuel : Nat} : ∀ (c : Code) {j : JC}, cCode P quiet c = some j → ∀ {t : T} {H : Hp}, roK H0 H → ∀ {k : Ex → T → Hp → Option α} {y : α}, runC call fuel j t H k = some y →
    ∃ e t' H', k e t' H' = some y ∧ roK H H' ∧ ∀ K : Ex → Env → Hp → Prop, K e t'.env H' → vc P (CallsTo P) c t.env H K
  | .skip, j, hj, t, H, hH, k, y, hr => by simp [cCode] at hj; subst hj; exact ⟨_, t, H, hr, roK_refl _, fun K hk => hk⟩
  | .ret, j, hj, t, H, hH, k, y, hr => by simp [cCode] at hj; subst hj; exact ⟨_, t, H, hr, roK_refl _, fun K hk => hk⟩
  | .exit id, j, hj, t, H, hH, k, y, hr => by simp [cCode] at hj; subst hj; exact ⟨_, t, H, hr, roK_refl _, fun K hk => hk⟩
  | .seq a b, j, hj, t, H, hH, k, y, hr => by
    simp only [cCode] at hj
    split at hj
    · rename_i ja jb h1 h2
      cases hj
      obtain ⟨e, t1, H1, g1, r1, g2⟩ := code_run hc a h1 hH (k := fun e t H => match e with
        | .normal => runC call fuel jb t H k
        | e => k e t H) hr
      cases e with
      | normal =>
        obtain ⟨e, t2, H2, g3, r2, g4⟩ := code_run hc b h2 (roK_trans hH r1) g1
        exact ⟨e, t2, H2, g3, roK_trans r1 r2, fun K hk => g2 _ (g4 K hk)⟩
      | exit id => exact ⟨_, t1, H1, g1, r1, fun K hk => g2 _ hk⟩
      | ret => exact ⟨_, t1, H1, g1, r1, fun K hk => g2 _ hk⟩
    · cases hj
  | .cond c a b, j, hj, t, H, hH, k, y, hr => by
    simp only [cCode] at hj
    split at hj
    · rename_i c' ja jb h0 h1 h2
      cases hj
      simp only [runC, cOd_ev h0] at hr
      split at hr
      · rename_i e
        obtain ⟨e', t1, H1, g1, r1, g2⟩ := code_run hc a h1 hH hr
        exact ⟨e', t1, H1, g1, r1, fun K hk => by simp only [vc, e]; exact ⟨fun _ => g2 K hk, fun q => (by cases q)⟩⟩
      · rename_i e
        obtain ⟨e', t1, H1, g1, r1, g2⟩ := code_run hc b h2 hH hr
        exact ⟨e', t1, H1, g1, r1, fun K hk => by simp only [vc, e]; exact ⟨fun q => (by cases q), fun _ => g2 K hk⟩⟩
      · cases hr
    · cases hj
  | .block id c, j, hj, t, H, hH, k, y, hr => by
    simp only [cCode, Option.map_eq_some_iff] at hj
    obtain ⟨jc, h1, rfl⟩ := hj
    obtain ⟨e, t1, H1, g1, r1, g2⟩ := code_run hc c h1 hH (k := fun e t H => match e with
      | .exit i => if i = id then k .normal t H else k (.exit i) t H
      | e => k e t H) hr
    cases e with
    | normal => exact ⟨_, t1, H1, g1, r1, fun K hk => g2 _ (by simpa using hk)⟩
    | ret => exact ⟨_, t1, H1, g1, r1, fun K hk => g2 _ (by simpa using hk)⟩
    | exit i =>
      simp only at g1
      split at g1
      · rename_i e; subst e; exact ⟨_, t1, H1, g1, r1, fun K hk => g2 _ (by simpa using hk)⟩
      · rename_i e; exact ⟨_, t1, H1, g1, r1, fun K hk => g2 _ (by rw [if_neg (by simpa using e)]; exact hk)⟩
  | .loop c, j, hj, t, H, hH, k, y, hr => by
    simp only [cCode, Option.map_eq_some_iff] at hj
    obtain ⟨jc, h1, rfl⟩ := hj
    have main : ∀ (n : Nat) (t : T) (H : Hp), roK H0 H → rounds (runC call fuel jc) n t H k = some y → ∃ e t' H', k e t' H' = some y ∧ roK H H' ∧ ∀ K : Ex → Env → Hp → Prop, K e t'.env H' → vc P (CallsTo P) (.loop c) t.env H K := by
      intro n
      induction n with
      | zero => intro t H hH hr; cases hr
      | succ n ih =>
        intro t H hH hr
        obtain ⟨e, t1, H1, g1, r1, g2⟩ := code_run hc c h1 hH (k := fun e t H => match e with
          | .normal => rounds (runC call fuel jc) n t H k
          | e => k e t H) hr
        cases e with
        | normal =>
          obtain ⟨e, t2, H2, g3, r2, g4⟩ := ih t1 H1 (roK_trans hH r1) g1
          refine ⟨e, t2, H2, g3, roK_trans r1 r2, fun K hk => ?_⟩
          obtain ⟨I, ⟨m, hm⟩, hI⟩ := g4 K hk
          refine ⟨fun σ H' n => I σ H' n ∨ (σ = t.env ∧ H' = H ∧ n = m + 1), ⟨m + 1, .inr ⟨rfl, rfl, rfl⟩⟩, fun σ' H' n' hn => ?_⟩
          rcases hn with hn | ⟨rfl, rfl, rfl⟩
          · refine vc_mono c (hI σ' H' n' hn) fun e σ H h => ?_
            cases e with
            | normal => obtain ⟨m', q1, q2⟩ := h; exact ⟨m', q1, .inl q2⟩
            | exit _ => exact h
            | ret => exact h
          · exact g2 _ ⟨m, Nat.lt_succ_self _, .inl hm⟩
        | exit id =>
          exact ⟨_, t1, H1, g1, r1, fun K hk => ⟨fun σ H' n => σ = t.env ∧ H' = H ∧ n = 0, ⟨0, rfl, rfl, rfl⟩, fun σ' H' n' ⟨q1, q2, _⟩ => by subst q1; subst q2; exact g2 _ hk⟩⟩
        | ret =>
          exact ⟨_, t1, H1, g1, r1, fun K hk => ⟨fun σ H' n => σ = t.env ∧ H' = H ∧ n = 0, ⟨0, rfl, rfl, rfl⟩, fun σ' H' n' ⟨q1, q2, _⟩ => by subst q1; subst q2; exact g2 _ hk⟩⟩
    exact main fuel t H hH hr
  | .region id ops false, j, hj, t, H, hH, k, y, hr => by
    simp only [cCode, Option.map_eq_some_iff] at hj
    obtain ⟨js, h1, rfl⟩ := hj
    obtain ⟨t', H', g1, r1, g2⟩ := ops_run hc ops.toList h1 hH (k := fun t H => k .normal t H) hr
    exact ⟨_, t', H', g1, r1, fun K hk => g2 _ hk⟩
  | .region id ops true, j, hj, t, H, hH, k, y, hr => by
    simp only [cCode] at hj
    split at hj
    · rename_i hreg
      simp only [Bool.and_eq_true] at hreg
      simp only [Option.map_eq_some_iff] at hj
      obtain ⟨js, h1, rfl⟩ := hj
      obtain ⟨t', H', g1, r1, g2⟩ := opsD_runs hc hreg.2 ops.toList 0 rfl h1 (hs := []) (ps := []) (fun _ h => by cases h) (fun _ h => by cases h) hH (k := fun t H => k .normal t H) hr
      exact ⟨_, t', H', g1, r1, fun K hk => ⟨_, hreg.1, g2 _ hk⟩⟩
    · cases hj
  | .rangeFunc .., j, hj, _, _, _, _, _, _ => by simp [cCode] at hj
  | .scope _, j, hj, _, _, _, _, _, _ => by simp [cCode] at hj
  | .label _, j, hj, _, _, _, _, _, _ => by simp [cCode] at hj
  | .goto _, j, hj, _, _, _, _, _, _ => by simp [cCode] at hj
  | .refuse _, j, hj, _, _, _, _, _, _ => by simp [cCode] at hj

end Go.Vc

/- The interpreter is right: calls. -/
set_option linter.unusedVariables false
namespace Go.Vc
open Go

mutual
theorem renIs_eq {l ρ : List Nat} {base : Nat} (hl : ∀ k k', l[k]? = some k' → renN ρ base k = k') : ∀ x y : AV, renIs l x y = true → ren ρ base x = y
  | .p k o, y, h => by
    cases y <;> simp [renIs] at h
    obtain ⟨h1, rfl⟩ := h; simp only [ren, hl _ _ h1]
  | .sl k o n c, y, h => by
    cases y <;> simp [renIs] at h
    obtain ⟨⟨⟨h1, rfl⟩, rfl⟩, rfl⟩ := h; simp only [ren, hl _ _ h1]
  | .ag xs, y, h => by
    cases y <;> simp only [renIs, Bool.false_eq_true] at h
    simp only [ren, renIsL_eq hl xs _ h]
  | .tu xs, y, h => by
    cases y <;> simp only [renIs, Bool.false_eq_true] at h
    simp only [ren, renIsL_eq hl xs _ h]
  | .fn f xs, y, h => by
    cases y <;> simp only [renIs, Bool.false_eq_true, Bool.and_eq_true, beq_iff_eq] at h
    obtain ⟨rfl, h⟩ := h
    simp only [ren, renIsL_eq hl xs _ h]
  | .u, y, h => by cases y <;> simp [renIs] at h; simp only [ren]
  | .b x, y, h => by cases y <;> simp [renIs] at h; subst h; simp only [ren]
  | .i k n, y, h => by cases y <;> simp [renIs] at h; obtain ⟨rfl, rfl⟩ := h; simp only [ren]
  | .f k n, y, h => by cases y <;> simp [renIs] at h; obtain ⟨rfl, rfl⟩ := h; simp only [ren]
  | .c k n m, y, h => by cases y <;> simp [renIs] at h; obtain ⟨⟨rfl, rfl⟩, rfl⟩ := h; simp only [ren]
  | .np, y, h => by cases y <;> simp [renIs] at h; simp only [ren]
  | .ns, y, h => by cases y <;> simp [renIs] at h; simp only [ren]
  | .s x, y, h => by cases y <;> simp [renIs] at h
theorem renIsL_eq {l ρ : List Nat} {base : Nat} (hl : ∀ k k', l[k]? = some k' → renN ρ base k = k') : ∀ x y : List AV, renIsL l x y = true → renL ρ base x = y
  | [], y, h => by cases y <;> simp [renIsL] at h; simp only [renL]
  | x :: xs, y, h => by
    cases y with
    | nil => simp [renIsL] at h
    | cons y ys =>
      simp only [renIsL, Bool.and_eq_true] at h
      simp only [renL, renIs_eq hl x y h.1, renIsL_eq hl xs ys h.2]
end

theorem renN_of {ρ : List Nat} {base k k' : Nat} (h : ρ[k]? = some k') : renN ρ base k = k' := by simp [renN, h]
theorem renN_app {ρ : List Nat} {base k k' : Nat} (h : (ρ ++ [base])[k]? = some k') : renN ρ base k = k' := by
  rcases Nat.lt_or_ge k ρ.length with hl | hl
  · rw [List.getElem?_append_left hl] at h; exact renN_of h
  · have hk : k = ρ.length := by have := (List.getElem?_eq_some_iff.1 h).1; simp at this; omega
    subst hk
    simp at h
    simp [renN, h]

theorem lendK_some {α : Type} {H : Hp} : ∀ {ρ : List Nat} {f : Hp → Option α} {y : α}, lendK H ρ f = some y → ∃ Hl, f Hl = some y ∧ reads H ρ Hl ∧ Hl.length = ρ.length ∧ (∀ b ∈ Hl, AV.flats b.cells = true ∧ b.ro = true)
  | [], f, y, h => ⟨[], h, trivial, rfl, fun _ h => by cases h⟩
  | i :: is, f, y, h => by
    simp only [lendK] at h
    split at h
    · rename_i bl hb
      split at h
      · rename_i hf
        obtain ⟨Hl, h1, h2, h3, h4⟩ := lendK_some h
        refine ⟨⟨bl.ty, true, bl.cells⟩ :: Hl, h1, ⟨⟨bl, hb, rfl, rfl⟩, rfl, hf, h2⟩, by simp [h3], fun b hb => ?_⟩
        rcases List.mem_cons.1 hb with rfl | hb
        · exact ⟨hf, rfl⟩
        · exact h4 b hb
      · cases h
    · cases h

theorem ofListK_some {α : Type} : ∀ (xs : List AV) {i : Nat} {t : T} {k : T → Option α} {y : α}, T.ofListK i xs t k = some y → ∃ t', k t' = some y ∧ ∀ j, t'.env j = if j < i then t.env j else (xs[j - i]?).getD (t.env j)
  | [], i, t, k, y, h => ⟨t, h, fun j => by simp⟩
  | x :: xs, i, t, k, y, h => by
    simp only [T.ofListK, T.setK_eq] at h
    obtain ⟨t', h1, h2⟩ := ofListK_some xs h
    refine ⟨t', h1, fun j => ?_⟩
    rw [h2, T.env_set]
    unfold upd
    by_cases e1 : j < i
    · rw [if_pos e1, if_pos (by omega), if_neg (by simp; omega)]
    · rw [if_neg e1]
      by_cases e2 : j = i
      · subst e2; simp
      · rw [if_neg (by omega), if_neg (by simpa using e2)]
        rw [show j - i = (j - (i + 1)) + 1 from by omega, List.getElem?_cons_succ]

theorem ofListK_env0 {α : Type} {xs : List AV} {k : T → Option α} {y : α} (h : T.ofListK 0 xs .e k = some y) : ∃ t', k t' = some y ∧ t'.env = env0 xs := by
  obtain ⟨t', h1, h2⟩ := ofListK_some xs h
  refine ⟨t', h1, funext fun j => ?_⟩
  rw [h2]
  simp [env0, T.env, T.get, List.getD]

theorem res_eq {P : Program} {t : T} {G : Hp} : ∀ {rs : List ResultVar} {js : List JR}, cRes P rs = some js → ∀ {vs : List AV}, resL t G js = some vs → resAll P t.env G rs = some vs
  | [], js, h, vs, hv => by simp [cRes] at h; subst h; simpa [resL, resAll] using hv
  | .tmp i :: rs, js, h, vs, hv => by
    simp only [cRes, Option.map_eq_some_iff] at h
    obtain ⟨js', h1, rfl⟩ := h
    simp only [resL, res1] at hv
    split at hv
    · rename_i v vs' e1 e2
      cases e1; cases hv
      simp only [resAll, resOne, res_eq h1 e2]; rfl
    · cases hv
  | .cell i ty :: rs, js, h, vs, hv => by
    simp only [cRes] at h
    split at h
    · rename_i ti js' ht h1
      cases h
      simp only [resL] at hv
      split at hv
      · rename_i v vs' e1 e2
        cases hv
        have : resOne P t.env G (.cell i ty) = some v := by
          simp only [res1] at e1
          split at e1
          · rename_i b o hp
            split at e1
            · rename_i bl hb
              simp only [resOne, T.env_at, hp, load, ht, hb]
              split at e1
              · rename_i ha
                unfold readAt; rw [if_pos ha]; exact e1
              · rename_i ha
                unfold readAt; rw [if_neg (by rw [ha]; simp)]; exact e1
            · cases e1
          · cases e1
        simp only [resAll, this, res_eq h1 e2]
      · cases hv
    · cases h

theorem resF_eq {P : Program} {fn : Func} {t : T} {G : Hp} {js : List JR} (h : cRes P fn.results.toList = some js) {r : AV} (hr : resF t G js = some r) : resVC P fn t.env G = some r := by
  unfold resF at hr
  unfold resVC
  split at hr
  · rename_i v e; rw [res_eq h e]; exact hr
  · rename_i vs hne e
    rw [res_eq h e]
    cases hr
    split
    · rename_i v hh; cases hh; exact absurd rfl (hne v)
    · rename_i hh; cases hh; rfl
    · rename_i hh; cases hh
  · cases hr

theorem roK_take {H G : Hp} (h : roK H G) (hr : ∀ b ∈ H, b.ro = true) : G.take H.length = H := by
  apply List.ext_getElem?
  intro k
  rw [List.getElem?_take]
  by_cases e : k < H.length
  · rw [if_pos e]
    have := h k H[k] (List.getElem?_eq_getElem e) (hr _ (List.getElem_mem e))
    rw [this, List.getElem?_eq_getElem e]
  · rw [if_neg e, List.getElem?_eq_none (by omega)]

/-- What the end of a call shows. -/
theorem endJ_some {P : Program} {fn : Func} {t : T} {G H Hl : Hp} {ρ : List Nat} {js : List JR} (hres : cRes P fn.results.toList = some js) (hl : Hl.length = ρ.length) (hf : ∀ b ∈ Hl, AV.flats b.cells = true) (hG : G.take Hl.length = Hl) (hrd : reads H ρ Hl)
    {v : AV} {b : Option Blk} (h : endJ ρ.length H.length ρ t G js = some (v, b)) :
    ∃ (r : AV) (Hl' : Hp) (τ : List Nat), resVC P fn t.env G = some (ren τ G.length r) ∧ kept Hl.length τ G Hl' ∧ ren ρ H.length r = v ∧ graft ρ H Hl Hl' = H ++ b.toList ∧ Hl' = Hl ++ b.toList := by
  have hg0 : graft ρ H Hl Hl = H ++ [] := by
    have := reads_graft (ρ := ρ) (base := H.length) (H := H) ρ Hl [] hrd
    simpa [graft] using this
  unfold endJ at h
  split at h
  · cases h
  · rename_i r hr
    have hr' := resF_eq hres hr
    split at h
    · rename_i hflat
      cases h
      exact ⟨_, Hl, _, by rw [hr', ren_flat _ _ _ hflat], kept_same hf hG, ren_flat _ _ _ hflat, hg0, by simp⟩
    · split at h
      · split at h
        · rename_i h1
          simp only at h
          split at h
          · rename_i h2
            rw [forceAV_eq] at h
            cases h
            refine ⟨r, Hl, _, ?_, kept_same hf hG, renIs_eq (fun k k' e => renN_of e) _ _ h2, hg0, by simp⟩
            rw [hr', renIs_eq (fun k k' e => renN_of e) _ _ (by rw [hl]; exact h1)]
          · cases h
        · cases h
      · rename_i k hfil
        split at h
        · rename_i b' hb
          simp only at h
          split at h
          · rename_i hc
            simp only [Bool.and_eq_true, Bool.not_eq_true'] at hc
            rw [forceAV_eq] at h
            cases h
            have hk : Hl.length ≤ k := by
              have : k ∈ (AV.refs r []).filter (fun k => ρ.length.ble k) := by rw [hfil]; simp
              have := (List.mem_filter.1 this).2
              rw [hl]; exact Nat.le_of_ble_eq_true this
            refine ⟨_, Hl ++ [b'], List.range Hl.length ++ [k], ?_, kept_one hf hc.1.2 hc.1.1 hk hG hb, renIs_eq (fun k k' e => renN_app e) _ _ hc.2.2, ?_, by simp⟩
            · rw [hr', renIs_eq (fun k k' e => renN_of e) _ _ (by rw [hl]; exact hc.2.1)]
            · have := reads_graft (ρ := ρ) (base := H.length) (H := H) ρ Hl [b'] hrd
              simpa [graft, renB, renL_flat _ _ _ hc.1.2] using this
          · cases h
        · cases h
      · cases h

def EntOk (P : Program) (f : FuncId) : Ent → Prop
  | .ext g => ∀ args H v b, g args H = some (v, b) → ∀ κ : AV → Hp → Prop, κ v (H ++ b.toList) → callVC (CallsTo P) f args H κ
  | .fn jf => ∃ fn quiet, P.funcs[f]? = some fn ∧ cFunc P quiet fn jf.nargs = some jf

theorem callJ_ok {P : Program} (hmix : P.follows .mixedOrders = true) {tab : TT} (htab : ∀ p e, tab.get p = some e → EntOk P p.num e) (fuel : Nat) : ∀ d, CallOk P (callJ tab fuel d)
  | 0 => fun p args H v b h => by cases h
  | d + 1 => fun p args H v b h κ hk => by
    simp only [callJ] at h
    split at h
    · cases h
    · rename_i g e; exact htab _ _ e _ _ _ _ h κ hk
    · rename_i jf e
      obtain ⟨fn, quiet, hfn, hcf⟩ := htab _ _ e
      split at h
      · rename_i hlen
        split at h
        · rename_i hren
          obtain ⟨Hl, h1, hrd, hll, hfl⟩ := lendK_some h
          rw [forceAVs_eq] at h1
          obtain ⟨t0, h2, henv⟩ := ofListK_env0 h1
          unfold cFunc at hcf
          split at hcf
          · cases hcf
          · rename_i c hbody
            split at hcf
            · rename_i jc rs hc1 hc2
              split at hcf
              · rename_i hok
                have hjf : jf.code = jc ∧ jf.res = rs ∧ jf.nargs = jf.nargs := by
                  have := Option.some.inj hcf
                  exact ⟨by rw [← this], by rw [← this], rfl⟩
                obtain ⟨e', t1, G, h3, hro, h4⟩ := code_run ((callJ_ok hmix htab fuel d).r []) c (by rw [hjf.1]; exact hc1) (fun k bl h => by simp at h) h2
                have hend : (e' = .ret ∨ e' = .normal) ∧ endJ (AV.refsL args []).length H.length (AV.refsL args []) t1 G jf.res = some (v, b) := by
                  cases e' with
                  | exit _ => cases h3
                  | normal => exact ⟨.inr rfl, h3⟩
                  | ret => exact ⟨.inl rfl, h3⟩
                obtain ⟨r, Hl', τ, q1, q2, q3, q4, -⟩ := endJ_some (P := P) (fn := fn) (by rw [hjf.2.1]; exact hc2) hll (fun b hb => (hfl b hb).1) (roK_take hro fun b hb => (hfl b hb).2) hrd hend.2
                refine ⟨_, Hl, Hl', _, r, calls_to hmix hfn (args := AV.nameL (AV.refsL args []) args) ?_ ?_, renIsL_eq (fun k k' e => renN_of e) _ _ hren, reads_fits _ _ hrd, by rw [q3, q4]; exact hk⟩
                · have : (AV.nameL (AV.refsL args []) args).length = args.length := by
                    have : ∀ (l : List Nat) (xs : List AV), (AV.nameL l xs).length = xs.length := fun l xs => by
                      induction xs with
                      | nil => simp [AV.nameL]
                      | cons x xs ih => simp [AV.nameL, ih]
                    exact this _ _
                  rw [this, hlen]; exact hok
                · unfold bodyVC
                  rw [hbody]
                  simp only
                  rw [← henv]
                  exact h4 _ ⟨hend.1, τ, q1, q2⟩
              · cases hcf
            · cases hcf
        · cases h
      · cases h

/-! ### tables -/
theorem TT.setK_some {α : Type} (p : Pth) : ∀ (t : TT) (v : Ent) {k : TT → Option α} {y : α}, t.setK p v k = some y → ∃ t', k t' = some y ∧ ∀ q e, t'.get q = some e → (q = p ∧ e = v) ∨ t.get q = some e := by
  induction p with
  | e =>
    intro t v k y h
    cases t with
    | e => exact ⟨_, h, fun q e hq => by cases q <;> simp [TT.get] at hq; exact .inl ⟨rfl, hq.symm⟩⟩
    | n w l r =>
      refine ⟨_, h, fun q e hq => ?_⟩
      cases q with
      | e => exact .inl ⟨rfl, (Option.some.inj hq).symm⟩
      | l q => exact .inr hq
      | r q => exact .inr hq
  | l p ih =>
    intro t v k y h
    cases t with
    | e =>
      obtain ⟨t', h1, h2⟩ := ih .e v (k := fun l => k (.n none l .e)) h
      refine ⟨_, h1, fun q e hq => ?_⟩
      cases q <;> simp [TT.get] at hq
      rcases h2 _ _ hq with ⟨rfl, rfl⟩ | h
      · exact .inl ⟨rfl, rfl⟩
      · simp [TT.get] at h
    | n w l r =>
      obtain ⟨t', h1, h2⟩ := ih l v (k := fun l => k (.n w l r)) h
      refine ⟨_, h1, fun q e hq => ?_⟩
      cases q with
      | l q =>
        simp only [TT.get] at hq
        rcases h2 _ _ hq with ⟨rfl, rfl⟩ | h
        · exact .inl ⟨rfl, rfl⟩
        · exact .inr h
      | _ => exact .inr hq
  | r p ih =>
    intro t v k y h
    cases t with
    | e =>
      obtain ⟨t', h1, h2⟩ := ih .e v (k := fun r => k (.n none .e r)) h
      refine ⟨_, h1, fun q e hq => ?_⟩
      cases q <;> simp [TT.get] at hq
      rcases h2 _ _ hq with ⟨rfl, rfl⟩ | h
      · exact .inl ⟨rfl, rfl⟩
      · simp [TT.get] at h
    | n w l r =>
      obtain ⟨t', h1, h2⟩ := ih r v (k := fun r => k (.n w l r)) h
      refine ⟨_, h1, fun q e hq => ?_⟩
      cases q with
      | r q =>
        simp only [TT.get] at hq
        rcases h2 _ _ hq with ⟨rfl, rfl⟩ | h
        · exact .inl ⟨rfl, rfl⟩
        · exact .inr h
      | _ => exact .inr hq

theorem tabK_some {P : Program} {α : Type} : ∀ (l : List (FuncId × Ent)) {t : TT} {k : TT → Option α} {y : α}, (∀ x ∈ l, EntOk P x.1 x.2) → (∀ p e, t.get p = some e → EntOk P p.num e) → tabK l t k = some y → ∃ t', k t' = some y ∧ ∀ p e, t'.get p = some e → EntOk P p.num e
  | [], t, k, y, _, ht, h => ⟨t, h, ht⟩
  | (f, v) :: rest, t, k, y, hl, ht, h => by
    obtain ⟨t1, h1, h2⟩ := TT.setK_some (pth f) t v h
    refine tabK_some rest (fun x hx => hl x (List.mem_cons_of_mem _ hx)) (fun p e hp => ?_) h1
    rcases h2 p e hp with ⟨rfl, rfl⟩ | hp
    · have := hl (f, e) (by simp)
      rw [num_pth]; exact this
    · exact ht p e hp

/-- A whole run of a function. -/
def runF (l : List (FuncId × Ent)) (fuel d : Nat) (f : FuncId) (args : List AV) (H : Hp) : Option Rs := tabK l .e fun tab => callJ tab fuel d (pth f) args H

theorem runF_ok {P : Program} (hmix : P.follows .mixedOrders = true) {l : List (FuncId × Ent)} (hl : ∀ x ∈ l, EntOk P x.1 x.2) {fuel d : Nat} {f : FuncId} {args : List AV} {H : Hp} {v : AV} {b : Option Blk} (h : runF l fuel d f args H = some (v, b))
    {κ : AV → Hp → Prop} (hk : κ v (H ++ b.toList)) : callVC (CallsTo P) f args H κ := by
  obtain ⟨tab, h1, h2⟩ := tabK_some l hl (fun p e hp => by simp [TT.get] at hp) h
  have := callJ_ok hmix h2 fuel d _ _ _ _ _ h1 κ hk
  rwa [num_pth] at this

end Go.Vc
