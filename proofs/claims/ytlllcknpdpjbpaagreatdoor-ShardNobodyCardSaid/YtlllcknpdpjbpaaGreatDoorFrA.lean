import Derived.Orders
import Derived.Below
import GoSem.Dispatch
import Derived.Laws.World
import Derived.Laws.Cells
import Derived.Laws.Sem
import Derived.Lib.Strings
import Derived.Laws.Strings
import Derived.Laws.StructEq
import Derived.Laws.IdiomStrings
import Derived.Laws.BytesString
import Derived.Lib.ConvBytes
import Derived.Laws.MakeOwn
import Derived.Laws.Tables
namespace Go.Proofs.Sh
open Go Go.RowKit

/-! ## Values of the shadow interpreter -/

inductive DV where
  | bool (b : Bool)
  | int (k : IntKind) (n : Int)
  | flt (k : FloatKind) (n : Nat)
  | str (s : List UInt8)
  | nilp
  | ptr (b o : Nat)
  | nils
  | sl (b o n c e : Nat)
  | nilm
  | mp (b : Nat)
  | nilf
  | fn (f : Nat) (fst caps : List DV)
  | nili
  | ifc (t : Nat) (v : DV)
  | agg (l : List DV)
  | tup (l : List DV)
instance : Inhabited DV := ⟨.nilp⟩

namespace DV
def undef : DV := .tup []
def cells : DV → List DV
  | .agg l => l
  | v => [v]
/-- the value of one cell -/
def one : DV → Bool
  | .agg _ => false
  | .tup _ => false
  | _ => true
end DV

mutual
def DV.lt (g : Nat) : DV → Bool
  | .ptr b _ => decide (b < g)
  | .sl b _ _ _ _ => decide (b < g)
  | .mp b => decide (b < g)
  | .fn _ fst caps => DV.lts g fst && DV.lts g caps
  | .ifc _ x => x.lt g
  | .agg l => DV.lts g l
  | .tup l => DV.lts g l
  | _ => true
def DV.lts (g : Nat) : List DV → Bool
  | [] => true
  | a :: l => a.lt g && DV.lts g l
end

/-- A block of the shadow heap. -/
structure Ent where
  k : DV
  v : DV
  born : Nat
instance : Inhabited Ent := ⟨⟨.nilp, .nilp, 0⟩⟩

def entVals : List Ent → List DV
  | [] => []
  | e :: es => e.k :: e.v :: entVals es

inductive Blk where
  | cells (cs : List DV) (ty : Nat)
  | map (es : List Ent) (clock : Nat)
  | iter (m : Option Nat) (since : Nat) (seen : List Nat) (stepped : Nat)
  | gone
instance : Inhabited Blk := ⟨.gone⟩

/-- the values that lie in a block -/
def Blk.vals : Blk → List DV
  | .cells cs _ => cs
  | .map es _ => entVals es
  | .iter (some b) _ _ _ => [.mp b]
  | .iter none _ _ _ => []
  | .gone => []

abbrev DH := List Blk
abbrev DF := List (Nat × DV)

def DF.get : DF → Nat → Option DV
  | [], _ => none
  | (k, v) :: l, t => if k = t then some v else DF.get l t

def DF.put (F : DF) (d : Option Nat) (v : DV) : DF :=
  match d with
  | some t => (t, v) :: F
  | none => F

def DF.keep (F : DF) : List Nat → DF
  | [] => []
  | t :: ts => match F.get t with
    | some v => (t, v) :: DF.keep F ts
    | none => DF.keep F ts

namespace DH
def cell (H : DH) (b o : Nat) : Option DV :=
  match H[b]? with
  | some (.cells cs _) => cs[o]?
  | _ => none
def cellsAt (H : DH) (b o n : Nat) : Option (List DV) :=
  match H[b]? with
  | some (.cells cs _) => if o + n ≤ cs.length then some ((cs.drop o).take n) else none
  | _ => none
def put (H : DH) (m b o : Nat) (vs : List DV) : Option DH :=
  match H[b]? with
  | some (.cells cs ty) => if m ≤ b ∧ o + vs.length ≤ cs.length ∧ vs.all DV.one = true then some (H.set b (.cells (cs.take o ++ vs ++ cs.drop (o + vs.length)) ty)) else none
  | _ => none
end DH

/-! ## The small language -/

inductive DX where
  | t (n : Nat)
  | k (v : DV)

inductive EqK where
  | bool | ptr | slice | map | func | iface

inductive DO where
  | mv (x : DX)
  | pick (c a b : DX)
  | new (z : List DV) (ty : Nat)
  | box (x : DX) (ty : Nat)
  | build (z : List DV) (ps : List (Nat × Nat × DX))
  | bsl (z : List DV) (n e ty : Nat) (ps : List (Nat × Nat × DX))
  | ld (x : DX)
  | lda (n : Nat) (x : DX)
  | st (n : Nat) (x v : DX)
  | bin (op : BinOp) (x y : DX)
  | eq (k : EqK) (neg : Bool) (x y : DX)
  | eqs (neg : Bool) (fs : List (Nat × Nat)) (x y : DX)
  | not (x : DX)
  | neg (x : DX)
  | cvi (k : IntKind) (x : DX)
  | cvs (x : DX)
  | sts (x : DX)
  | s2b (ty : Nat) (x : DX)
  | b2s (x : DX)
  | ssl (x : DX) (lo hi : Option DX)
  | sls (e : Nat) (x : DX) (lo hi mx : Option DX)
  | asl (n e : Nat) (x : DX) (lo hi : Option DX)
  | fld (off : Nat) (x : DX)
  | ixa (e : Nat) (x i : DX)
  | ixp (n e : Nat) (x i : DX)
  | ixs (x i : DX)
  | len (s : Bool) (x : DX)
  | app (e ty bts : Nat) (x y : DX)
  | cpy (e : Nat) (x y : DX)
  | mm (mx : Bool) (x y : DX)
  | call (f : Nat) (xs : List DX)
  | callv (x : DX) (xs : List DX)
  | mkf (f : Nat) (fst caps : List DX)
  | ext (x : DX) (i : Nat)
  | nck (x : DX)
  | mki (t : Nat) (x : DX)
  | mks (z : List DV) (e ty bts : Nat) (l c : DX)
  | fldv (off : Nat) (sz : Option Nat) (x : DX)
  | mkm
  | lku (kd : Nat) (z : DV) (ok : Bool) (x k : DX)
  | mup (kd : Nat) (x k v : DX)
  | mdl (kd : Nat) (x k : DX)
  | lenm (x : DX)
  | rng (x : DX)
  | nxt (x : DX)
  | ent (x : DX)
  | stuck

structure DOp where
  d : Option Nat
  o : DO
  g : Option (Nat × Bool)

inductive DC where
  | skip
  | reg (ops : List DOp) (draw : Bool) (chk : List (Nat × Nat))
  | seq (a b : DC)
  | cond (x : DX) (a b : DC)
  | block (id : Nat) (a : DC)
  | loop (a : DC)
  | exit (id : Nat)
  | ret
  | gc (heap : Bool) (live : List Nat)
  | stuck

inductive DRes where
  | t (n : Nat)
  | cell (n : Nat) (sz : Option Nat)

structure DFn where
  np : Nat
  ntmps : Nat
  quiet : Bool
  gcr : Bool
  res : List DRes
  body : DC

/-! ## Operations -/

def DX.ev (F : DF) : DX → Option DV
  | .t n => F.get n
  | .k v => some v

def DX.evs (F : DF) : List DX → Option (List DV)
  | [] => some []
  | x :: xs => match x.ev F with
    | some v => match DX.evs F xs with
      | some vs => some (v :: vs)
      | none => none
    | none => none

def bin (op : BinOp) : DV → DV → Option DV
  | .int k a, .int k' b =>
    match op with
    | .shl => if 0 ≤ b then some (.int k (k.wrap (a * 2 ^ (min b.toNat k.bits)))) else none
    | .shr => if 0 ≤ b then some (.int k (a.fdiv (2 ^ (min b.toNat k.bits)))) else none
    | op => if k = k' then
        match op with
        | .add => some (.int k (k.wrap (a + b)))
        | .sub => some (.int k (k.wrap (a - b)))
        | .mul => some (.int k (k.wrap (a * b)))
        | .quo => if b = 0 then none else some (.int k (k.wrap (a.tdiv b)))
        | .rem => if b = 0 then none else some (.int k (a.tmod b))
        | .and => some (.int k (k.wrap ((BitVec.ofInt k.bits a &&& BitVec.ofInt k.bits b).toNat)))
        | .or => some (.int k (k.wrap ((BitVec.ofInt k.bits a ||| BitVec.ofInt k.bits b).toNat)))
        | .xor => some (.int k (k.wrap ((BitVec.ofInt k.bits a ^^^ BitVec.ofInt k.bits b).toNat)))
        | .eql => some (.bool (decide (a = b)))
        | .neq => some (.bool (decide (a ≠ b)))
        | .lss => some (.bool (decide (a < b)))
        | .leq => some (.bool (decide (a ≤ b)))
        | .gtr => some (.bool (decide (b < a)))
        | .geq => some (.bool (decide (b ≤ a)))
        | _ => none
      else none
  | .str a, .str b =>
    match op with
    | .add => if a.length + b.length ≤ 4611686018427387904 then some (.str (a ++ b)) else none
    | .eql => some (.bool (decide (a = b)))
    | .neq => some (.bool (decide (a ≠ b)))
    | .lss => some (.bool (Op.bytesLess a b))
    | .leq => some (.bool (Op.bytesLess a b || decide (a = b)))
    | .gtr => some (.bool (!(Op.bytesLess a b || decide (a = b))))
    | .geq => some (.bool (!Op.bytesLess a b))
    | _ => none
  | .flt k a, .flt k' b => if k = k' then
      match op with
      | .eql => some (.bool (Op.floatEq k a b))
      | .neq => some (.bool (!Op.floatEq k a b))
      | _ => none
    else none
  | _, _ => none

def eqv : EqK → DV → DV → Option Bool
  | .bool, .bool a, .bool b => some (a == b)
  | .ptr, .nilp, .nilp => some true
  | .ptr, .nilp, .ptr _ _ => some false
  | .ptr, .ptr _ _, .nilp => some false
  | .ptr, .ptr b o, .ptr b' o' => if b = b' then some (decide (o = o')) else none
  | .slice, .nils, .nils => some true
  | .slice, .nils, .sl .. => some false
  | .slice, .sl .., .nils => some false
  | .map, .nilm, .nilm => some true
  | .map, .nilm, .mp _ => some false
  | .map, .mp _, .nilm => some false
  | .func, .nilf, .nilf => some true
  | .func, .nilf, .fn _ _ _ => some false
  | .func, .fn _ _ _, .nilf => some false
  | .iface, .nili, .nili => some true
  | .iface, .nili, .ifc _ _ => some false
  | .iface, .ifc _ _, .nili => some false
  | _, _, _ => none

/-- one cell of a struct that is compared: whole numbers, bools, strings -/
def eqc : Nat → DV → DV → Option Bool
  | 0, .bool a, .bool b => some (a == b)
  | 1, .int k a, .int k' b => if k = k' then some (decide (a = b)) else none
  | 2, .str a, .str b => some (decide (a = b))
  | _, _, _ => none

def eqcs (xs ys : List DV) : List (Nat × Nat) → Option Bool
  | [] => some true
  | (i, k) :: is => match xs[i]?, ys[i]? with
    | some x, some y => match eqc k x y with
      | some true => eqcs xs ys is
      | some false => some false
      | none => none
    | _, _ => none

def fillD (cs : List DV) : List (Nat × Nat × DV) → Option (List DV)
  | [] => some cs
  | (off, n, v) :: ps => if v.cells.length = n ∧ off + n ≤ cs.length then fillD (cs.take off ++ v.cells ++ cs.drop (off + n)) ps else none

def evps (F : DF) : List (Nat × Nat × DX) → Option (List (Nat × Nat × DV))
  | [] => some []
  | (o, n, x) :: ps => match x.ev F with
    | some v => match evps F ps with
      | some l => some ((o, n, v) :: l)
      | none => none
    | none => none

/-- a bound of a slice expression -/
def bnd (F : DF) (dflt top : Nat) : Option DX → Option Nat
  | none => some dflt
  | some x => match x.ev F with
    | some (.int _ i) => if 0 ≤ i ∧ i ≤ top then some i.toNat else none
    | _ => none

def byteV (c : UInt8) : DV := .int .u8 c.toNat
def bytesOfV : List DV → Option (List UInt8)
  | [] => some []
  | .int .u8 n :: l => match bytesOfV l with
    | some r => some (UInt8.ofNat n.toNat :: r)
    | none => none
  | _ => none

/-- the text of a slice of bytes -/
def b2sD (H : DH) : DV → Option (List UInt8)
  | .nils => some []
  | .sl b o n _ 1 => match H.cellsAt b o n with
    | some vs => bytesOfV vs
    | none => none
  | _ => none

/-- the cells of the first n elements of what is appended or copied, and how many elements it has -/
def srcLen : DV → Option Nat
  | .nils => some 0
  | .sl _ _ n _ _ => some n
  | .str s => some s.length
  | _ => none
def srcCells (H : DH) (e n : Nat) : DV → Option (List DV)
  | .nils => some []
  | .sl b o _ _ e' => if e' = e then H.cellsAt b o (n * e) else none
  | .str s => if e = 1 then some ((s.take n).map byteV) else none
  | _ => none

def dapp (m : Nat) (H : DH) (e ty bts : Nat) (x y : DV) : Option (DV × DH) :=
  match srcLen y with
  | none => none
  | some n =>
    if n = 0 then (match x with
      | .nils => some (.nils, H)
      | .sl b o k c e' => some (.sl b o k c e', H)
      | _ => none)
    else match srcCells H e n y with
    | none => none
    | some src =>
      match x with
      | .nils => if n * bts ≤ 70368744177664 then some (.sl H.length 0 n n e, H ++ [.cells src ty]) else none
      | .sl b o k c e' =>
        if k + n ≤ c then
          (if e' = e then match H.put m b (o + k * e) src with
            | some H' => some (.sl b o (k + n) c e, H')
            | none => none
          else none)
        else match H[b]? with
          | some (.cells cs ty') =>
            if m ≤ b ∧ e' = e ∧ ty' = ty ∧ o + k * e = cs.length ∧ (k + n) * bts ≤ 70368744177664 ∧ src.all DV.one = true then
              some (.sl H.length 0 (k + n) (k + n) e, H.set b .gone ++ [.cells (cs.drop o ++ src) ty])
            else none
          | _ => none
      | _ => none

def asAggD : DV → Option (List DV)
  | .agg l => some l
  | _ => none

def reps (n : Nat) (z : List DV) : List DV := (List.replicate n z).flatten

/-- the entry of a key: where, and what; none: a key is not held against this one -/
def findE (kd : Nat) (k : DV) : List Ent → Nat → Option (Option (Nat × DV))
  | [], _ => some none
  | e :: es, i => match eqc kd k e.k with
    | some true => some (some (i, e.v))
    | some false => findE kd k es (i + 1)
    | none => none

def mapAt (H : DH) : DV → Option (List Ent)
  | .nilm => some []
  | .mp b => match H[b]? with
    | some (.map es _) => some es
    | _ => none
  | _ => none

def DH.setAt (H : DH) (m b : Nat) (x : Blk) : Option DH := if m ≤ b then some (H.set b x) else none

section
variable (call : Nat → Nat → List DV → DH → Option (DV × DH)) (quiet : Nat → Bool)

def dop (m : Nat) (F : DF) (H : DH) : DO → Option (DV × DH)
  | .mv x => match x.ev F with | some v => some (v, H) | none => none
  | .pick c a b => match c.ev F with
    | some (.bool true) => (match a.ev F with | some v => some (v, H) | none => none)
    | some (.bool false) => (match b.ev F with | some v => some (v, H) | none => none)
    | _ => none
  | .new z ty => some (.ptr H.length 0, H ++ [.cells z ty])
  | .box x ty => match x.ev F with | some v => some (.ptr H.length 0, H ++ [.cells v.cells ty]) | none => none
  | .build z ps => match evps F ps with
    | some l => match fillD z l with | some cs => some (.agg cs, H) | none => none
    | none => none
  | .bsl z n e ty ps => match evps F ps with
    | some l => match fillD (reps n z) l with | some cs => some (.sl H.length 0 n n e, H ++ [.cells cs ty]) | none => none
    | none => none
  | .ld x => match x.ev F with
    | some (.ptr b o) => (match H.cell b o with | some v => some (v, H) | none => none)
    | _ => none
  | .lda n x => match x.ev F with
    | some (.ptr b o) => (match H.cellsAt b o n with | some vs => some (.agg vs, H) | none => none)
    | _ => none
  | .st n x v => match x.ev F, v.ev F with
    | some (.ptr b o), some v => if v.cells.length = n then (match H.put m b o v.cells with | some H' => some (DV.undef, H') | none => none) else none
    | _, _ => none
  | .bin op x y => match x.ev F, y.ev F with
    | some a, some b => (match bin op a b with | some v => some (v, H) | none => none)
    | _, _ => none
  | .eq k neg x y => match x.ev F, y.ev F with
    | some a, some b => (match eqv k a b with | some r => some (.bool (neg ^^ r), H) | none => none)
    | _, _ => none
  | .eqs neg fs x y => match x.ev F, y.ev F with
    | some (.agg a), some (.agg b) => (match eqcs a b fs with | some r => some (.bool (neg ^^ r), H) | none => none)
    | _, _ => none
  | .not x => match x.ev F with | some (.bool b) => some (.bool (!b), H) | _ => none
  | .neg x => match x.ev F with | some (.int k n) => some (.int k (k.wrap (0 - n)), H) | _ => none
  | .cvi k x => match x.ev F with | some (.int _ n) => some (.int k (k.wrap n), H) | _ => none
  | .cvs x => match x.ev F with | some (.int _ n) => some (.str (Utf8.encode n).data.toList, H) | _ => none
  | .sts x => match x.ev F with | some (.str s) => some (.str s, H) | _ => none
  | .s2b ty x => match x.ev F with
    | some (.str s) => some (.sl H.length 0 s.length s.length 1, H ++ [.cells (s.map byteV) ty])
    | _ => none
  | .b2s x => match x.ev F with
    | some v => (match b2sD H v with | some s => some (.str s, H) | none => none)
    | none => none
  | .ssl x lo hi => match x.ev F with
    | some (.str s) => (match bnd F s.length s.length hi with
      | some h => (match bnd F 0 h lo with
        | some l => some (.str ((s.drop l).take (h - l)), H)
        | none => none)
      | none => none)
    | _ => none
  | .sls e x lo hi mx => match x.ev F with
    | some .nils => (match bnd F 0 0 mx, bnd F 0 0 hi, bnd F 0 0 lo with
      | some _, some _, some _ => some (.nils, H)
      | _, _, _ => none)
    | some (.sl b o n c e') => if e' = e then (match bnd F c c mx with
      | some k => (match bnd F n k hi with
        | some h => (match bnd F 0 h lo with
          | some l => if h ≤ k then some (.sl b (o + l * e) (h - l) (k - l) e, H) else none
          | none => none)
        | none => none)
      | none => none) else none
    | _ => none
  | .asl n e x lo hi => match x.ev F with
    | some (.ptr b o) => (match bnd F n n hi with
      | some h => (match bnd F 0 h lo with
        | some l => (match H.cellsAt b o (n * e) with
          | some _ => some (.sl b (o + l * e) (h - l) (n - l) e, H)
          | none => none)
        | none => none)
      | none => none)
    | _ => none
  | .fld off x => match x.ev F with | some (.ptr b o) => some (.ptr b (o + off), H) | _ => none
  | .ixa e x i => match x.ev F, i.ev F with
    | some (.sl b o n _ e'), some (.int _ i) => if 0 ≤ i ∧ i < n ∧ e' = e then some (.ptr b (o + i.toNat * e), H) else none
    | _, _ => none
  | .ixp n e x i => match x.ev F, i.ev F with
    | some (.ptr b o), some (.int _ i) => if 0 ≤ i ∧ i < n then some (.ptr b (o + i.toNat * e), H) else none
    | _, _ => none
  | .ixs x i => match x.ev F, i.ev F with
    | some (.str s), some (.int _ i) => if 0 ≤ i then (match s[i.toNat]? with | some c => some (byteV c, H) | none => none) else none
    | _, _ => none
  | .len true x => match x.ev F with
    | some (.str s) => some (.int .i64 s.length, H)
    | _ => none
  | .len false x => match x.ev F with
    | some .nils => some (.int .i64 0, H)
    | some (.sl _ _ n _ _) => some (.int .i64 n, H)
    | _ => none
  | .app e ty bts x y => match x.ev F, y.ev F with
    | some a, some b => dapp m H e ty bts a b
    | _, _ => none
  | .cpy e x y => match x.ev F, y.ev F with
    | some .nils, some b => (match srcLen b with | some _ => some (.int .i64 0, H) | none => none)
    | some (.sl b o n _ e'), some y => if e' = e then (match srcLen y with
      | some k => (match srcCells H e (min k n) y with
        | some vs => (match H.put m b o vs with | some H' => some (.int .i64 (min k n : Nat), H') | none => none)
        | none => none)
      | none => none) else none
    | _, _ => none
  | .mm mx x y => match x.ev F, y.ev F with
    | some (.int k a), some (.int k' b) => if k = k' then some (.int k (if mx then (if b > a then b else a) else (if b < a then b else a)), H) else none
    | _, _ => none
  | .call f xs => match DX.evs F xs with
    | some vs => call f m vs H
    | none => none
  | .callv x xs => match x.ev F, DX.evs F xs with
    | some (.fn f fst caps), some vs => call f m (fst ++ vs ++ caps) H
    | _, _ => none
  | .mkf f fst caps => match DX.evs F fst, DX.evs F caps with | some us, some vs => some (.fn f us vs, H) | _, _ => none
  | .ext x i => match x.ev F with
    | some (.tup l) => (match l[i]? with | some v => some (v, H) | none => none)
    | _ => none
  | .nck x => match x.ev F with
    | some (.ptr b o) => some (.ptr b o, H)
    | some (.fn f fst caps) => some (.fn f fst caps, H)
    | some (.ifc t v) => some (.ifc t v, H)
    | _ => none
  | .mki t x => match x.ev F with | some v => some (.ifc t v, H) | none => none
  | .mks z e ty bts l c => match l.ev F, c.ev F with
    | some (.int .i64 l), some (.int .i64 c) => if 0 ≤ l ∧ l ≤ c ∧ bts * c ≤ 70368744177664 then
        some (.sl H.length 0 l.toNat c.toNat e, H ++ [.cells (reps c.toNat z) ty]) else none
    | _, _ => none
  | .fldv off none x => match x.ev F with
    | some (.agg l) => (match l[off]? with | some v => some (v, H) | none => none)
    | _ => none
  | .fldv off (some n) x => match x.ev F with
    | some (.agg l) => if off + n ≤ l.length then some (.agg ((l.drop off).take n), H) else none
    | _ => none
  | .mkm => some (.mp H.length, H ++ [.map [] 0])
  | .lku kd z ok x k => match x.ev F, k.ev F with
    | some x, some k => (match mapAt H x with
      | some es => (match findE kd k es 0 with
        | some (some (_, v)) => some (if ok then .tup [v, .bool true] else v, H)
        | some none => some (if ok then .tup [z, .bool false] else z, H)
        | none => none)
      | none => none)
    | _, _ => none
  | .mup kd x k v => match x.ev F, k.ev F, v.ev F with
    | some (.mp b), some k, some v => (match H[b]? with
      | some (.map es clock) => (match findE kd k es 0 with
        | some (some (i, _)) => (match H.setAt m b (.map (es.modify i fun e => { e with k := k, v := v }) clock) with
          | some H' => some (DV.undef, H')
          | none => none)
        | some none => (match H.setAt m b (.map (es ++ [⟨k, v, clock⟩]) (clock + 1)) with
          | some H' => some (DV.undef, H')
          | none => none)
        | none => none)
      | _ => none)
    | _, _, _ => none
  | .mdl kd x k => match x.ev F, k.ev F with
    | some .nilm, some _ => some (.tup [], H)
    | some (.mp b), some k => (match H[b]? with
      | some (.map es clock) => (match findE kd k es 0 with
        | some (some (i, _)) => (match H.setAt m b (.map (es.eraseIdx i) clock) with
          | some H' => some (.tup [], H')
          | none => none)
        | some none => (match H.setAt m b (.map es clock) with
          | some H' => some (.tup [], H')
          | none => none)
        | none => none)
      | _ => none)
    | _, _ => none
  | .lenm x => match x.ev F with
    | some v => (match mapAt H v with | some es => some (.int .i64 es.length, H) | none => none)
    | none => none
  | .rng x => match x.ev F with
    | some .nilm => some (.ptr H.length 0, H ++ [.iter none 0 [] 0])
    | some (.mp b) => (match H[b]? with
      | some (.map _ clock) => some (.ptr H.length 0, H ++ [.iter (some b) clock [] clock])
      | _ => none)
    | _ => none
  | .nxt x => match x.ev F with
    | some (.ptr r 0) => (match H[r]? with
      | some (.iter none _ _ _) => some (.tup [.bool false], H)
      | some (.iter (some b) since seen last) => (match H[b]? with
        | some (.map es clock) =>
          if !seen.isEmpty && !es.isEmpty && es.all (fun e => decide (last ≤ e.born)) then none else
          (match es.filter fun e => !seen.contains e.born with
          | [] => some (.tup [.bool false], H)
          | [e] => if e.born < since then (match H.setAt m r (.iter (some b) since (seen ++ [e.born]) clock) with
            | some H' => some (.tup [.bool true, e.k, e.v], H')
            | none => none) else none
          | _ => none)
        | _ => none)
      | _ => none)
    | _ => none
  | .ent x => match x.ev F with
    | some (.ptr r 0) => (match H[r]? with
      | some (.iter (some b) _ seen stepped) => (match H[b]? with
        | some (.map es clock) => if clock = stepped then (match seen.getLast? with
          | some s => (match es.find? fun e => e.born == s with
            | some e => some (.tup [e.k, e.v], H)
            | none => none)
          | none => none) else none
        | _ => none)
      | _ => none)
    | _ => none
  | .stuck => none

/-- the blocks that a value names -/
def blks : Option DV → List Nat
  | some (.ptr b _) => [b]
  | some (.sl b _ _ _ _) => [b]
  | some (.mp b) => [b]
  | _ => []

/-- an iterator, and its map -/
def iblks (H : DH) : Option DV → List Nat
  | some (.ptr r _) => match H[r]? with
    | some (.iter (some b) _ _ _) => [r, b]
    | _ => [r]
  | _ => []

/-- what an operation does to memory: whether it writes, and the blocks that it looks into, or writes; none: whatever there is -/
def DO.foot (F : DF) (H : DH) : DO → Bool × Option (List Nat)
  | .ld x => (false, some (blks (x.ev F)))
  | .lda _ x => (false, some (blks (x.ev F)))
  | .b2s x => (false, some (blks (x.ev F)))
  | .asl _ _ x _ _ => (false, some (blks (x.ev F)))
  | .lku _ _ _ x _ => (false, some (blks (x.ev F)))
  | .lenm x => (false, some (blks (x.ev F)))
  | .rng x => (false, some (blks (x.ev F)))
  | .ent x => (false, some (iblks H (x.ev F)))
  | .st _ x _ => (true, some (blks (x.ev F)))
  | .mup _ x _ _ => (true, some (blks (x.ev F)))
  | .mdl _ x _ => (true, some (blks (x.ev F)))
  | .nxt x => (true, some (iblks H (x.ev F)))
  | .app _ _ _ x y => (true, some (blks (x.ev F) ++ blks (y.ev F)))
  | .cpy _ x y => (true, some (blks (x.ev F) ++ blks (y.ev F)))
  | .call f _ => (!quiet f, none)
  | .callv x _ => (match x.ev F with
    | some (.fn f _ _) => (!quiet f, none)
    | _ => (true, none))
  | _ => (false, some [])

def gdv (F : DF) : Option (Nat × Bool) → Option Bool
  | none => some true
  | some (t, want) => match F.get t with
    | some (.bool b) => some (b == want)
    | some (.tup []) => some false
    | _ => none

def dops (m : Nat) : List DOp → DF → DH → Option (DF × DH)
  | [], F, H => some (F, H)
  | o :: os, F, H => match gdv F o.g with
    | none => none
    | some false => dops m os (F.put o.d DV.undef) H
    | some true => match dop call m F H o.o with
      | some (v, H') => dops m os (F.put o.d v) H'
      | none => none

/-- the same, with what each operation looks into -/
def dopsC (m : Nat) : List DOp → DF → DH → Option (DF × DH × List (Bool × Option (List Nat)))
  | [], F, H => some (F, H, [])
  | o :: os, F, H => match gdv F o.g with
    | none => none
    | some false => match dopsC m os (F.put o.d DV.undef) H with
      | some (F', H', l) => some (F', H', (false, some []) :: l)
      | none => none
    | some true => match dop call m F H o.o with
      | some (v, H1) => (match dopsC m os (F.put o.d v) H1 with
        | some (F', H', l) => some (F', H', o.o.foot quiet F H :: l)
        | none => none)
      | none => none

end

def apartL (a b : List Nat) : Bool := a.all fun x => !b.contains x

def pairOk : Bool × Option (List Nat) → Bool × Option (List Nat) → Bool
  | (w, some a), (w', some b) => (!w && !w') || apartL a b
  | (w, _), (w', _) => !w && !w'

/-- the pairs that no order binds are apart -/
def chkOk (feet : List (Bool × Option (List Nat))) (chk : List (Nat × Nat)) : Bool :=
  chk.all fun p => match feet[p.1]?, feet[p.2]? with
    | some x, some y => pairOk x y
    | _, _ => false

/-! ## Collecting: what a frame (or a result) leads to, in blocks of its own -/

mutual
/-- the blocks from g on that a value names: (block, offset, cells) -/
def DV.refs (g : Nat) : DV → List (Nat × Option (Nat × Nat))
  | .ptr b _ => if b < g then [] else [(b, none)]
  | .sl b o _ c e => if b < g then [] else [(b, some (o, c * e))]
  | .mp b => if b < g then [] else [(b, none)]
  | .fn _ fst caps => DV.refss g fst ++ DV.refss g caps
  | .ifc _ x => x.refs g
  | .agg l => DV.refss g l
  | .tup l => DV.refss g l
  | _ => []
def DV.refss (g : Nat) : List DV → List (Nat × Option (Nat × Nat))
  | [] => []
  | a :: l => a.refs g ++ DV.refss g l
end

/-- (block, offset, cells) of each block that is kept -/
abbrev Ren := List (Nat × Nat × Nat)

def Ren.find (ρ : Ren) (b : Nat) (i : Nat := 0) : Option (Nat × Nat × Nat) :=
  match ρ with
  | [] => none
  | (b', o, n) :: l => if b' = b then some (i, o, n) else Ren.find l b (i + 1)

/-- those that are reached, in the order in which they are met -/
def reach (g : Nat) (H : DH) : Nat → List (Nat × Option (Nat × Nat)) → Ren → Ren
  | 0, _, ρ => ρ
  | _, [], ρ => ρ
  | k + 1, (b, w) :: l, ρ =>
    match ρ.find b with
    | some _ => reach g H k l ρ
    | none => match H[b]? with
      | some (.cells cs _) =>
        let (o, n) := match w with | some (o, n) => (o, n) | none => (0, cs.length)
        reach g H k (l ++ DV.refss g ((cs.drop o).take n)) (ρ ++ [(b, o, n)])
      | _ => reach g H k l ρ

mutual
def DV.ren (g : Nat) (ρ : Ren) : DV → Option DV
  | .ptr b o => if b < g then some (.ptr b o) else match ρ.find b with
    | some (i, o', n) => if o' ≤ o ∧ o ≤ o' + n then some (.ptr (g + i) (o - o')) else none
    | none => none
  | .sl b o n c e => if b < g then some (.sl b o n c e) else match ρ.find b with
    | some (i, o', k) => if o' ≤ o ∧ o + c * e ≤ o' + k ∧ n ≤ c then some (.sl (g + i) (o - o') n c e) else none
    | none => none
  | .mp b => if b < g then some (.mp b) else none
  | .fn f fst caps => match DV.rens g ρ fst with
    | some k => (match DV.rens g ρ caps with
      | some l => some (.fn f k l)
      | none => none)
    | none => none
  | .ifc t x => match DV.ren g ρ x with
    | some y => some (.ifc t y)
    | none => none
  | .agg l => match DV.rens g ρ l with
    | some l => some (.agg l)
    | none => none
  | .tup l => match DV.rens g ρ l with
    | some l => some (.tup l)
    | none => none
  | v => some v
def DV.rens (g : Nat) (ρ : Ren) : List DV → Option (List DV)
  | [] => some []
  | a :: l => match a.ren g ρ with
    | some a => match DV.rens g ρ l with
      | some l => some (a :: l)
      | none => none
    | none => none
end

def renBlks (g : Nat) (H : DH) (ρ : Ren) : Ren → Option (List Blk)
  | [] => some []
  | (b, o, n) :: l => match H[b]? with
    | some (.cells cs ty) => if o ≤ cs.length then (match DV.rens g ρ ((cs.drop o).take n) with
      | some cs' => (match renBlks g H ρ l with
        | some r => some (.cells cs' ty :: r)
        | none => none)
      | none => none) else none
    | _ => none

def renF (g : Nat) (ρ : Ren) : DF → Option DF
  | [] => some []
  | (t, v) :: l => match v.ren g ρ with
    | some v => (match renF g ρ l with
      | some l => some ((t, v) :: l)
      | none => none)
    | none => none

def DF.refs (g : Nat) : DF → List (Nat × Option (Nat × Nat))
  | [] => []
  | (_, v) :: l => v.refs g ++ DF.refs g l

/-- how many names of blocks the blocks from g on bear -/
def refsIn (g : Nat) : List Blk → Nat
  | [] => 0
  | .cells cs _ :: l => (DV.refss g cs).length + refsIn g l
  | _ :: l => refsIn g l

def distinct : Ren → Bool
  | [] => true
  | (b, _, _) :: l => (l.all fun x => x.1 != b) && distinct l

/-- the frame alone, and what it leads to -/
def gcF (g : Nat) (F : DF) (H : DH) : Option (DF × DH) :=
  let ρ := reach g H ((F.refs g).length + refsIn g (H.drop g)) (F.refs g) []
  if distinct ρ then match renF g ρ F with
    | some F' => (match renBlks g H ρ ρ with
      | some bs => some (F', H.take g ++ bs)
      | none => none)
    | none => none
  else none

/-! ## Code -/

inductive DE where
  | normal | exit (id : Nat) | ret

section
variable (call : Nat → Nat → List DV → DH → Option (DV × DH)) (quiet : Nat → Bool)

def iter (body : DF → DH → Option (DE × DF × DH)) : Nat → DF → DH → Option (DE × DF × DH)
  | 0, _, _ => none
  | k + 1, F, H => match body F H with
    | some (.normal, F', H') => iter body k F' H'
    | r => r

/-- g: where this call's own blocks begin -/
def dcode (n m g : Nat) : DC → DF → DH → Option (DE × DF × DH)
  | .skip, F, H => some (.normal, F, H)
  | .reg ops _ [], F, H => match dops call m ops F H with
    | some (F', H') => some (.normal, F', H')
    | none => none
  | .reg ops _ (p :: chk), F, H => match dopsC call quiet m ops F H with
    | some (F', H', feet) => if chkOk feet (p :: chk) then some (.normal, F', H') else none
    | none => none
  | .seq a b, F, H => match dcode n m g a F H with
    | some (.normal, F', H') => dcode n m g b F' H'
    | r => r
  | .cond x a b, F, H => match x.ev F with
    | some (.bool true) => dcode n m g a F H
    | some (.bool false) => dcode n m g b F H
    | _ => none
  | .block id a, F, H => match dcode n m g a F H with
    | some (.exit id', F', H') => if id' = id then some (.normal, F', H') else some (.exit id', F', H')
    | r => r
  | .loop a, F, H => iter (dcode n m g a) n F H
  | .exit id, F, H => some (.exit id, F, H)
  | .ret, F, H => some (.ret, F, H)
  | .gc heap live, F, H => if heap = true ∧ m = g then (match gcF g (F.keep live) H with
      | some (F', H') => some (.normal, F', H')
      | none => none) else some (.normal, F.keep live, H)
  | .stuck, _, _ => none
end

def initF : Nat → List DV → DF
  | _, [] => []
  | i, v :: vs => (i, v) :: initF (i + 1) vs

def undefs : Nat → Nat → DF
  | _, 0 => []
  | i, n + 1 => (i, DV.undef) :: undefs (i + 1) n

def DRes.ev (F : DF) (H : DH) : DRes → Option DV
  | .t n => F.get n
  | .cell n sz => match F.get n with
    | some (.ptr b o) => (match sz with
      | none => H.cell b o
      | some k => (match H.cellsAt b o k with | some l => some (.agg l) | none => none))
    | _ => none

def DRes.evs (F : DF) (H : DH) : List DRes → Option (List DV)
  | [] => some []
  | r :: rs => match r.ev F H with
    | some v => (match DRes.evs F H rs with
      | some vs => some (v :: vs)
      | none => none)
    | none => none

def packR : List DV → DV
  | [v] => v
  | vs => .tup vs

structure DP where
  fn : Nat → Option DFn
  prim : Nat → Option (Nat → List DV → DH → Option (DV × DH))
  quiet : Nat → Bool

/-- a result, and what it leads to -/
def gcR (g : Nat) (v : DV) (H H0 : DH) : Option (DV × DH) :=
  let ρ := reach g H ((v.refs g).length + refsIn g (H.drop g)) (v.refs g) []
  if distinct ρ then match v.ren g ρ with
    | some v' => (match renBlks g H ρ ρ with
      | some bs => some (v', H0 ++ bs)
      | none => none)
    | none => none
  else none

def dcall (D : DP) : Nat → Nat → Nat → List DV → DH → Option (DV × DH)
  | 0, _, _, _, _ => none
  | n + 1, f, m, args, H =>
    match D.prim f with
    | some φ => φ m args H
    | none => match D.fn f with
      | none => none
      | some fn => if args.length = fn.np ∧ fn.quiet = D.quiet f ∧ (fn.quiet = true ∨ (m ≤ H.length ∧ fn.gcr = false)) then
          match dcode (dcall D n) D.quiet n (if fn.quiet then H.length else m) H.length fn.body (initF 0 args) H with
          | some (.exit _, _, _) => none
          | some (_, F', H') => (match DRes.evs F' H' fn.res with
            | some vs => if fn.gcr then gcR H.length (packR vs) H' H else some (packR vs, H')
            | none => none)
          | none => none
        else none
end Go.Proofs.Sh

namespace Go.Proofs.Sh
open Go Go.RowKit

/-! Short words for printed code. -/
namespace W
def t (n : Nat) : DX := .t n
def ki (n : Int) : DX := .k (.int .i64 n)
def kt : DX := .k (.bool true)
def kf : DX := .k (.bool false)
def m (d x : Nat) : DOp := ⟨some d, .mv (.t x), none⟩
def mg (d x t : Nat) (b : Bool) : DOp := ⟨some d, .mv (.t x), some (t, b)⟩
def o (d : Nat) (x : DO) : DOp := ⟨some d, x, none⟩
def og (d : Nat) (x : DO) (t : Nat) (b : Bool) : DOp := ⟨some d, x, some (t, b)⟩
def on (x : DO) : DOp := ⟨none, x, none⟩
def ong (x : DO) (t : Nat) (b : Bool) : DOp := ⟨none, x, some (t, b)⟩
def r (l : List DOp) : DC := .reg l false []
def rd (l : List DOp) : DC := .reg l true []
def q (a b : DC) : DC := .seq a b
end W

/-! ## The small language out of the kit's code -/

def dvs1 : Value → Option DV
  | .bool b => some (.bool b)
  | .int k n => some (.int k n)
  | .float k n => some (.flt k n)
  | .string s => some (.str s.data.toList)
  | .pointer none => some .nilp
  | .slice none 0 0 => some .nils
  | .map none => some .nilm
  | .nilFunc => some .nilf
  | .nilIface => some .nili
  | _ => none

def dvsL : List Value → Option (List DV)
  | [] => some []
  | v :: vs => match dvs1 v with
    | some d => (match dvsL vs with
      | some ds => some (d :: ds)
      | none => none)
    | none => none

def dvK : Value → Option DV
  | .agg cs => (match dvsL cs.toList with
    | some l => some (.agg l)
    | none => none)
  | .tuple cs => if cs.size = 0 then some (.tup []) else none
  | v => dvs1 v

def cX : Operand → Option DX
  | .tmp t => some (.t t)
  | .const v => (match dvK v with
    | some d => some (.k d)
    | none => none)
  | .func f => some (.k (.fn f [] []))
  | .global _ => none

def cXs : List Operand → Option (List DX)
  | [] => some []
  | x :: xs => match cX x with
    | some d => (match cXs xs with
      | some ds => some (d :: ds)
      | none => none)
    | none => none

def cXo : Option Operand → Option (Option DX)
  | none => some none
  | some x => match cX x with
    | some d => some (some d)
    | none => none

section
variable (P : Program)

/-- the cells of a type's zero value -/
def zeroOf (t : TypeId) : Option (List DV) :=
  match P.info? t with
  | some i => (match i.zero with
    | some z => if z.cells.size = i.size then dvsL z.cells.toList else none
    | none => none)
  | none => none

def isAggT (t : TypeId) : Option Bool :=
  match P.underlying t with
  | some (.struct _) => some true
  | some (.array _ _) => some true
  | some _ => some false
  | none => none

def cParts (place : Nat → Option (Nat × Nat)) : List (Nat × Operand) → Option (List (Nat × Nat × DX))
  | [] => some []
  | (i, x) :: ps => match place i, cX x, cParts place ps with
    | some (o, n), some d, some l => some ((o, n, d) :: l)
    | _, _, _ => none

/-- the offsets of a struct's fields, all of one cell and of a kind that is compared by its value; no blank field -/
def eqFields : List Field → Option (List (Nat × Nat))
  | [] => some []
  | f :: fs => if f.name = "_" then none else
    match eqFields fs with
    | none => none
    | some l =>
      match P.underlying f.type with
      | some .bool => some ((f.offset, 0) :: l)
      | some (.int _) => some ((f.offset, 1) :: l)
      | some .string => some ((f.offset, 2) :: l)
      | _ => none

def nilConst : Operand → Bool
  | .const .nilIface => true
  | _ => false

def cEq (neg : Bool) (t : TypeId) (x y : Operand) : Option DO :=
  match cX x, cX y with
  | some a, some b =>
    match P.underlying t with
    | some .bool => some (.eq .bool neg a b)
    | some (.pointer e) => (match P.info? e with
      | some i => if i.size = 0 then none else some (.eq .ptr neg a b)
      | none => none)
    | some (.slice _) => some (.eq .slice neg a b)
    | some (.map _ _) => some (.eq .map neg a b)
    | some (.func _ _ _) => some (.eq .func neg a b)
    | some (.interface _) => if nilConst x || nilConst y then some (.eq .iface neg a b) else none
    | some (.struct fs) => if P.stoodInHeld t || P.eqGuardType P.depth t then none else
      (match eqFields P fs.toList with
      | some l => some (.eqs neg l a b)
      | none => none)
    | _ => none
  | _, _ => none

def isNum (t : TypeId) : Bool :=
  match P.underlying t with
  | some (.int _) | some .string | some (.float _) => true
  | _ => false

def cBin (op : BinOp) (t : TypeId) (x y : Operand) : Option DO :=
  if isNum P t then (match cX x, cX y with
    | some a, some b => some (.bin op a b)
    | _, _ => none)
  else match op with
    | .eql => cEq P false t x y
    | .neq => cEq P true t x y
    | _ => none

def cConv (src dst : TypeId) (x : Operand) : Option DO :=
  match cX x with
  | none => none
  | some d =>
    match P.underlying src, P.underlying dst with
    | some (.int _), some (.int k) => some (.cvi k d)
    | some (.int _), some .string => some (.cvs d)
    | some .string, some .string => some (.sts d)
    | some (.slice e), some .string => (match P.underlying e with
      | some (.int .u8) => some (.b2s d)
      | _ => none)
    | some .string, some (.slice e) => (match P.underlying e with
      | some (.int .u8) => some (.s2b e d)
      | _ => none)
    | _, _ => none

def cSlice (t : TypeId) (x : Operand) (lo hi mx : Option Operand) : Option DO :=
  match cX x, cXo lo, cXo hi, cXo mx with
  | some d, some l, some h, some m =>
    (match P.underlying t with
    | some .string => if m.isSome then none else some (.ssl d l h)
    | some (.slice e) => (match P.info? e with
      | some i => if m.isSome && h.isNone then none else some (.sls i.size d l h m)
      | none => none)
    | some (.array n e) => (match P.info? e with
      | some i => if m.isSome then none else some (.asl n i.size d l h)
      | none => none)
    | _ => none)
  | _, _, _, _ => none

def zok (i : TypeInfo) : Bool :=
  match i.zero with
  | some z => decide (z.cells.size = i.size)
  | none => false

def argIsRow (t : TypeId) : Bool :=
  match P.underlying t with
  | some (.slice _) | some .string => true
  | _ => false

def keyKind (t : TypeId) : Option Nat :=
  match P.underlying t with
  | some .bool => some 0
  | some (.int _) => some 1
  | some .string => some 2
  | _ => none

def zeroVal (t : TypeId) : Option DV :=
  match P.info? t with
  | some i => (match i.zero with
    | some z => dvK z
    | none => none)
  | none => none

def cBuiltin (b : Builtin) (ts : Array TypeId) (xs : List Operand) : Option DO :=
  match b, xs, ts[0]? with
  | .len, [x], some t => (match cX x, P.underlying t with
    | some d, some .string => some (.len true d)
    | some d, some (.slice _) => some (.len false d)
    | some d, some (.map _ _) => some (.lenm d)
    | _, _ => none)
  | .append, [x, y], some t => (match cX x, cX y, P.underlying t, ts[1]? with
    | some a, some b, some (.slice e), some u => (match P.info? e with
      | some i => if argIsRow P u = true ∧ 0 < i.bytes ∧ i.bytes ≤ 1048576 ∧ zok i = true then some (.app i.size e i.bytes a b) else none
      | none => none)
    | _, _, _, _ => none)
  | .copy, [x, y], some t => (match cX x, cX y, P.underlying t with
    | some a, some b, some (.slice e) => (match P.info? e with
      | some i => some (.cpy i.size a b)
      | none => none)
    | _, _, _ => none)
  | .delete, [x, k], some t => (match cX x, cX k, P.underlying t with
    | some d, some j, some (.map kt _) => (match keyKind P kt with | some kd => some (.mdl kd d j) | none => none)
    | _, _, _ => none)
  | .min, [x, y], _ => (match cX x, cX y with
    | some a, some b => some (.mm false a b)
    | _, _ => none)
  | .max, [x, y], _ => (match cX x, cX y with
    | some a, some b => some (.mm true a b)
    | _, _ => none)
  | _, _, _ => none

def hasBody (f : Nat) : Bool :=
  match P.funcs[f]? with
  | some fn => fn.body.isSome && !(fn.name == "runtime.NumGoroutine")
  | none => false

def cCall (c : Call) : Option DO :=
  match c.callee with
  | .builtin b => cBuiltin P b c.argTypes c.args.toList
  | .value (.func f) => (match cXs c.args.toList with
    | some xs => if hasBody P f then some (.call f xs) else none
    | none => none)
  | .value x => (match cX x, cXs c.args.toList with
    | some d, some xs => some (.callv d xs)
    | _, _ => none)
  | .invoke _ _ => none

def cOp : Op → Option DO
  | .move x => (match cX x with | some d => some (.mv d) | none => none)
  | .assign x => (match cX x with | some d => some (.mv d) | none => none)
  | .pick c a b => (match cX c, cX a, cX b with
    | some c, some a, some b => some (.pick c a b)
    | _, _, _ => none)
  | .alloc t => (match zeroOf P t with | some z => some (.new z t) | none => none)
  | .box t x => (match cX x with | some d => some (.box d t) | none => none)
  | .build t ps => (match zeroOf P t, P.underlying t with
    | some z, some (.struct fs) => (match fs.toList.mapM (fun f => (P.info? f.type).map fun i => (f.offset, i.size)) with
      | some places => (match cParts (places.toArray[·]?) ps.toList with
        | some l => some (.build z l)
        | none => none)
      | none => none)
    | some z, some (.array _ e) => (match P.info? e with
      | some i => (match cParts (fun j => some (j * i.size, i.size)) ps.toList with
        | some l => some (.build z l)
        | none => none)
      | none => none)
    | _, _ => none)
  | .buildSlice t n ps => (match P.underlying t with
    | some (.slice e) => (match P.info? e, zeroOf P e with
      | some i, some z => if n * i.size ≤ 65536 ∧ 0 < i.size ∧ z.length = i.size then (match cParts (fun j => some (j * i.size, i.size)) ps.toList with
        | some l => some (.bsl z n i.size e l)
        | none => none) else none
      | _, _ => none)
    | _ => none)
  | .load t x => (match cX x, isAggT P t, P.info? t with
    | some d, some true, some i => some (.lda i.size d)
    | some d, some false, some _ => some (.ld d)
    | _, _, _ => none)
  | .store t x v => (match cX x, cX v, P.info? t with
    | some d, some e, some i => some (.st i.size d e)
    | _, _, _ => none)
  | .binOp op t x y _ => cBin P op t x y
  | .unOp .not _ x => (match cX x with | some d => some (.not d) | none => none)
  | .unOp .neg _ x => (match cX x with | some d => some (.neg d) | none => none)
  | .convert s t x => cConv P s t x
  | .slice t x lo hi mx => cSlice P t x lo hi mx
  | .fieldAddr t x f => (match cX x, P.underlying t with
    | some d, some (.struct fs) => (match fs[f]? with
      | some fl => (match P.info? fl.type with
        | some i => if i.size = 0 then none else some (.fld fl.offset d)
        | none => none)
      | none => none)
    | _, _ => none)
  | .indexAddr t x i => (match cX x, cX i, P.underlying t with
    | some d, some j, some (.slice e) => (match P.info? e with | some u => some (.ixa u.size d j) | none => none)
    | some d, some j, some (.array n e) => (match P.info? e with | some u => some (.ixp n u.size d j) | none => none)
    | _, _, _ => none)
  | .index t x i => (match cX x, cX i, P.underlying t with
    | some d, some j, some .string => some (.ixs d j)
    | _, _, _ => none)
  | .call c => cCall P c
  | .makeFunc (.func f) first caps => (match cXs first.toList, cXs caps.toList with
    | some k, some l => if hasBody P f then some (.mkf f k l) else none
    | _, _ => none)
  | .makeMap _ none => some .mkm
  | .lookup t x k ok => (match cX x, cX k, P.underlying t with
    | some d, some j, some (.map kt et) => (match keyKind P kt, zeroVal P et with
      | some kd, some z => some (.lku kd z ok d j)
      | _, _ => none)
    | _, _, _ => none)
  | .mapUpdate t x k v => (match cX x, cX k, cX v, P.underlying t with
    | some d, some j, some w, some (.map kt _) => (match keyKind P kt with | some kd => some (.mup kd d j w) | none => none)
    | _, _, _, _ => none)
  | .range t x => (match cX x, P.underlying t with
    | some d, some (.map _ _) => some (.rng d)
    | _, _ => none)
  | .next x false => (match cX x with | some d => some (.nxt d) | none => none)
  | .entry x => (match cX x with | some d => some (.ent d) | none => none)
  | .extract x i => (match cX x with | some d => some (.ext d i) | none => none)
  | .field t x f => (match cX x, P.underlying t with
    | some d, some (.struct fs) => (match fs[f]? with
      | some fl => (match isAggT P fl.type, P.info? fl.type with
        | some true, some i => some (.fldv fl.offset (some i.size) d)
        | some false, _ => some (.fldv fl.offset none d)
        | _, _ => none)
      | none => none)
    | _, _ => none)
  | .nilCheck x => (match cX x with | some d => some (.nck d) | none => none)
  | .makeInterface t x => (match cX x, P.underlying t with
    | _, some (.interface _) => none
    | some d, some _ => some (.mki t d)
    | _, _ => none)
  | .makeSlice t l c => (match cX l, cX c, P.underlying t with
    | some a, some b, some (.slice e) => (match P.info? e, zeroOf P e with
      | some i, some z => if z.length = i.size ∧ 0 < i.size ∧ 0 < i.bytes then some (.mks z i.size e i.bytes a b) else none
      | _, _ => none)
    | _, _, _ => none)
  | _ => none

/-! ### Regions that draw their order: what each operation does to memory -/

/-- 0: nothing, or it makes memory; 1: it reads; 2: it may write -/
def DO.touch : DO → Nat
  | .ld _ => 1
  | .lda _ _ => 1
  | .b2s _ => 1
  | .call _ _ => 2
  | .callv _ _ => 2
  | .asl _ _ _ _ _ => 1
  | .st _ _ _ => 2
  | .app _ _ _ _ _ => 2
  | .cpy _ _ _ => 2
  | .lku _ _ _ _ _ => 1
  | .lenm _ => 1
  | .rng _ => 1
  | .ent _ => 1
  | .mup _ _ _ _ => 2
  | .mdl _ _ _ => 2
  | .nxt _ => 2
  | _ => 0

def DX.tmp : DX → List Nat
  | .t n => [n]
  | .k _ => []

def DX.tmpO : Option DX → List Nat
  | none => []
  | some x => x.tmp

/-- the slots that an operation looks at -/
def DO.tmps : DO → List Nat
  | .mv x => x.tmp
  | .pick c a b => c.tmp ++ a.tmp ++ b.tmp
  | .new _ _ => []
  | .box x _ => x.tmp
  | .build _ ps => ps.flatMap fun p => p.2.2.tmp
  | .bsl _ _ _ _ ps => ps.flatMap fun p => p.2.2.tmp
  | .ld x => x.tmp
  | .lda _ x => x.tmp
  | .st _ x v => x.tmp ++ v.tmp
  | .bin _ x y => x.tmp ++ y.tmp
  | .eq _ _ x y => x.tmp ++ y.tmp
  | .eqs _ _ x y => x.tmp ++ y.tmp
  | .not x => x.tmp
  | .neg x => x.tmp
  | .cvi _ x => x.tmp
  | .cvs x => x.tmp
  | .sts x => x.tmp
  | .s2b _ x => x.tmp
  | .b2s x => x.tmp
  | .ssl x lo hi => x.tmp ++ DX.tmpO lo ++ DX.tmpO hi
  | .sls _ x lo hi mx => x.tmp ++ DX.tmpO lo ++ DX.tmpO hi ++ DX.tmpO mx
  | .asl _ _ x lo hi => x.tmp ++ DX.tmpO lo ++ DX.tmpO hi
  | .fld _ x => x.tmp
  | .ixa _ x i => x.tmp ++ i.tmp
  | .ixp _ _ x i => x.tmp ++ i.tmp
  | .ixs x i => x.tmp ++ i.tmp
  | .len _ x => x.tmp
  | .app _ _ _ x y => x.tmp ++ y.tmp
  | .cpy _ x y => x.tmp ++ y.tmp
  | .mm _ x y => x.tmp ++ y.tmp
  | .call _ xs => xs.flatMap DX.tmp
  | .callv x xs => x.tmp ++ xs.flatMap DX.tmp
  | .mkf _ us xs => us.flatMap DX.tmp ++ xs.flatMap DX.tmp
  | .ext x _ => x.tmp
  | .nck x => x.tmp
  | .mki _ x => x.tmp
  | .mks _ _ _ _ l c => l.tmp ++ c.tmp
  | .fldv _ _ x => x.tmp
  | .mkm => []
  | .lku _ _ _ x k => x.tmp ++ k.tmp
  | .mup _ x k v => x.tmp ++ k.tmp ++ v.tmp
  | .mdl _ x k => x.tmp ++ k.tmp
  | .lenm x => x.tmp
  | .rng x => x.tmp
  | .nxt x => x.tmp
  | .ent x => x.tmp
  | .stuck => []

def DOp.looks (d : DOp) : List Nat :=
  d.o.tmps ++ (match d.g with | some (t, _) => [t] | none => [])

/-- the operations that an operation waits for, by bits -/
def maskOf (acc : List Nat) (o : Oper) : Nat :=
  o.after.toList.foldl (fun s e => if Region.binds .any e then s ||| 2 ^ e.on ||| acc.getD e.on 0 else s) 0

def befL : List Oper → List Nat → List Nat
  | [], acc => acc
  | o :: os, acc => befL os (acc ++ [maskOf acc o])

def DO.isCall : DO → Bool
  | .call _ _ => true
  | .callv _ _ => true
  | _ => false

/-- whether it may make memory -/
def DO.makes : DO → Bool
  | .new _ _ => true
  | .box _ _ => true
  | .bsl _ _ _ _ _ => true
  | .s2b _ _ => true
  | .mks _ _ _ _ _ _ => true
  | .mkm => true
  | .rng _ => true
  | .app _ _ _ _ _ => true
  | .call _ _ => true
  | .callv _ _ => true
  | _ => false

/-- y comes behind x in the text: whether they want an order -/
def loose (x y : DO) : Bool := (x.touch == 2 && y.touch != 0) || (y.touch == 2 && x.touch != 0) || (y.isCall && x.makes)

def looseAt (ds : List DOp) (b : List Nat) (i j : Nat) : Bool :=
  match ds[i]?, ds[j]? with
    | some x, some y => loose x.o y.o && !(b.getD j 0).testBit i
    | _, _ => false

/-- all such pairs -/
def loosePairs (ds : List DOp) (b : List Nat) : List (Nat × Nat) :=
  (List.range ds.length).flatMap fun j => ((List.range j).filter fun i => looseAt ds b i j).map fun i => (i, j)

/-- each slot that two operations share, and one of them writes, orders them -/
def tmpsOk (ds : List DOp) (b : List Nat) : Bool :=
  (List.range ds.length).all fun j => (List.range j).all fun i => match ds[i]?, ds[j]? with
    | some x, some y => (match x.d with
        | some t => !(y.d == some t || y.looks.contains t)
        | none => true) && (match y.d with
        | some t => !(x.looks.contains t)
        | none => true) || (b.getD j 0).testBit i
    | _, _ => true

def edgesOk (ops : List Oper) : Bool :=
  (List.range ops.length).all fun i => match ops[i]? with
    | some o => o.after.toList.all fun e => !Region.binds .any e || decide (e.on < i)
    | none => true

/-- every constant of the code is one of no block -/
def DX.closed : DX → Bool
  | .t _ => true
  | .k v => v.lt 0

def DX.closedO : Option DX → Bool
  | none => true
  | some x => x.closed

def DO.closed : DO → Bool
  | .mv x => x.closed
  | .pick c a b => c.closed && a.closed && b.closed
  | .new z _ => DV.lts 0 z
  | .box x _ => x.closed
  | .build z ps => DV.lts 0 z && ps.all fun p => p.2.2.closed
  | .bsl z _ _ _ ps => DV.lts 0 z && ps.all fun p => p.2.2.closed
  | .st _ x v => x.closed && v.closed
  | .ld x => x.closed
  | .lda _ x => x.closed
  | .b2s x => x.closed
  | .sls _ x _ _ _ => x.closed
  | .asl _ _ x _ _ => x.closed
  | .fld _ x => x.closed
  | .ixa _ x _ => x.closed
  | .ixp _ _ x _ => x.closed
  | .app _ _ _ x y => x.closed && y.closed
  | .cpy _ x y => x.closed && y.closed
  | .call _ xs => xs.all DX.closed
  | .callv x xs => x.closed && xs.all DX.closed
  | .mkf _ us xs => us.all DX.closed && xs.all DX.closed
  | .ext x _ => x.closed
  | .nck x => x.closed
  | .mki _ x => x.closed
  | .fldv _ _ x => x.closed
  | .lku _ z _ x k => z.lt 0 && x.closed && k.closed
  | .mup _ x k v => x.closed && k.closed && v.closed
  | .mdl _ x k => x.closed && k.closed
  | .lenm x => x.closed
  | .rng x => x.closed
  | .nxt x => x.closed
  | .ent x => x.closed
  | .mks z _ _ _ _ _ => DV.lts 0 z
  | _ => true

def dstOk (nt : Nat) : Option Nat → Bool
  | some t => decide (t < nt)
  | none => true

def cOper (nt : Nat) (ops : Array Oper) (o : Oper) : Option DOp :=
  if dstOk nt o.dst = true then
    let d := match cOp P o.op with
      | some d => if d.closed = true then d else .stuck
      | none => .stuck
    match o.guard with
    | none => some ⟨o.dst, d, none⟩
    | some (j, w) => match (ops[j]?).bind (·.dst) with
      | some t => if t < nt then some ⟨o.dst, d, some (t, w)⟩ else none
      | none => none
  else none

def cOps (nt : Nat) (ops : Array Oper) : List Oper → Option (List DOp)
  | [] => some []
  | o :: os => match cOper P nt ops o with
    | some d => (match cOps nt ops os with
      | some l => some (d :: l)
      | none => none)
    | none => none

def comp (nt : Nat) : Code → Option DC
  | .skip => some .skip
  | .region _ ops draw => (match cOps P nt ops ops.toList with
    | some l => if !draw || (edgesOk ops.toList && tmpsOk l (befL ops.toList [])) then some (.reg l draw (if draw then loosePairs l (befL ops.toList []) else [])) else some .stuck
    | none => some .stuck)
  | .seq a b => (match comp nt a with
    | some x => (match comp nt b with
      | some y => some (.seq x y)
      | none => none)
    | none => none)
  | .cond c a b => (match cX c with
    | some x => (match comp nt a with
      | some y => (match comp nt b with
        | some z => some (.cond x y z)
        | none => none)
      | none => none)
    | none => some .stuck)
  | .block id a => (match comp nt a with | some x => some (.block id x) | none => none)
  | .loop a => (match comp nt a with | some x => some (.loop x) | none => none)
  | .exit id => some (.exit id)
  | .ret => some .ret
  | _ => some .stuck

/-- without the places at which it collects -/
def DC.isGc : DC → Bool
  | .gc _ _ => true
  | _ => false

def DC.strip : DC → DC
  | .seq a b => if a.isGc = true then b.strip else .seq a.strip b.strip
  | .cond x a b => .cond x a.strip b.strip
  | .block id a => .block id a.strip
  | .loop a => .loop a.strip
  | c => c

def cRes : List ResultVar → Option (List DRes)
  | [] => some []
  | .tmp t :: rs => (match cRes rs with | some l => some (.t t :: l) | none => none)
  | .cell a t :: rs => (match cRes rs, isAggT P t, P.info? t with
    | some l, some true, some i => some (.cell a (some i.size) :: l)
    | some l, some false, some _ => some (.cell a none :: l)
    | _, _, _ => none)

/-- what fits a function of the program -/
def compFn (fn : Func) (np : Nat) (quiet gcr : Bool) : Option DFn :=
  match fn.body with
  | none => none
  | some c => match comp P fn.ntmps c, cRes P fn.results.toList with
    | some d, some r => some ⟨np, fn.ntmps, quiet, gcr, r, d⟩
    | _, _ => none

def DFn.strip (f : DFn) : DFn := { f with body := f.body.strip }
end
end Go.Proofs.Sh

namespace Go.Proofs.Sh
open Go Go.RowKit

structure Loc where
  blk : Nat
  base : Nat
  room : Nat

abbrev LMap := Nat → Option Loc

mutual
/-- a value of the shadow, and one of the model -/
def VR (μ : LMap) : DV → Value → Prop
  | .bool b, v => v = .bool b
  | .int k n, v => v = .int k n
  | .flt k n, v => v = .float k n
  | .str s, v => v = .string ⟨⟨s⟩⟩
  | .nilp, v => v = .pointer none
  | .ptr b o, v => ∃ p, μ b = some p ∧ v = .pointer (some ⟨p.blk, p.base + o, none⟩)
  | .nils, v => v = .slice none 0 0
  | .sl b o n c e, v => ∃ p, μ b = some p ∧ ∃ a c', v = .slice (some a) n c' ∧ c ≤ c' ∧ n ≤ c' ∧
      ((a = ⟨p.blk, p.base + o, none⟩ ∧ p.base + o + c' * e ≤ p.room) ∨ (n = 0 ∧ c' = 0))
  | .nilm, v => v = .map none
  | .mp b, v => ∃ p, μ b = some p ∧ v = .map (some p.blk)
  | .nilf, v => v = .nilFunc
  | .fn f fst caps, v => ∃ fs cs : Array Value, v = .func (.func f) fs cs ∧ VRs μ fst fs.toList ∧ VRs μ caps cs.toList
  | .nili, v => v = .nilIface
  | .ifc t x, v => ∃ u, v = .iface t u ∧ VR μ x u
  | .agg l, v => ∃ cs : Array Value, v = .agg cs ∧ VRs μ l cs.toList
  | .tup l, v => ∃ cs : Array Value, v = .tuple cs ∧ VRs μ l cs.toList
def VRs (μ : LMap) : List DV → List Value → Prop
  | [], [] => True
  | a :: l, b :: m => VR μ a b ∧ VRs μ l m
  | _, _ => False
end

mutual
theorem VR.mono' {μ μ' : LMap} {g : Nat} (h : ∀ b p, b < g → μ b = some p → μ' b = some p) : ∀ (d : DV) (v : Value), d.lt g = true → VR μ d v → VR μ' d v
  | .bool b, v, _, hv | .int k n, v, _, hv | .flt k n, v, _, hv | .str s, v, _, hv | .nilp, v, _, hv | .nils, v, _, hv | .nilm, v, _, hv | .nilf, v, _, hv | .nili, v, _, hv => by simpa only [VR] using hv
  | .ptr b o, v, hl, hv | .sl b o n c e, v, hl, hv | .mp b, v, hl, hv => by
    simp only [VR] at *
    obtain ⟨p, hp, e⟩ := hv
    exact ⟨p, h _ _ (by simpa [DV.lt] using hl) hp, e⟩
  | .fn f fst caps, v, hl, hv => by
    simp only [VR, DV.lt, Bool.and_eq_true] at *
    obtain ⟨fs, cs, e, hf, hc⟩ := hv
    exact ⟨fs, cs, e, VRs.mono' h fst _ hl.1 hf, VRs.mono' h caps _ hl.2 hc⟩
  | .agg caps, v, hl, hv | .tup caps, v, hl, hv => by
    simp only [VR] at *
    obtain ⟨cs, e, hc⟩ := hv
    exact ⟨cs, e, VRs.mono' h caps _ (by simpa [DV.lt] using hl) hc⟩
  | .ifc t x, v, hl, hv => by
    simp only [VR] at *
    obtain ⟨u, e, hc⟩ := hv
    exact ⟨u, e, VR.mono' h x _ (by simpa [DV.lt] using hl) hc⟩
theorem VRs.mono' {μ μ' : LMap} {g : Nat} (h : ∀ b p, b < g → μ b = some p → μ' b = some p) : ∀ (d : List DV) (v : List Value), DV.lts g d = true → VRs μ d v → VRs μ' d v
  | [], [], _, _ => by simp only [VRs]
  | a :: l, b :: m, hl, hv => by
    simp only [VRs, DV.lts, Bool.and_eq_true] at *
    exact ⟨VR.mono' h a b hl.1 hv.1, VRs.mono' h l m hl.2 hv.2⟩
  | [], _ :: _, _, hv => by simp only [VRs] at hv
  | _ :: _, [], _, hv => by simp only [VRs] at hv
end

mutual
theorem VR.mono {μ μ' : LMap} (h : ∀ b p, μ b = some p → μ' b = some p) : ∀ (d : DV) (v : Value), VR μ d v → VR μ' d v
  | .bool b, v, hv | .int k n, v, hv | .flt k n, v, hv | .str s, v, hv | .nilp, v, hv | .nils, v, hv | .nilm, v, hv | .nilf, v, hv | .nili, v, hv => by simpa only [VR] using hv
  | .ptr b o, v, hv | .sl b o n c e, v, hv | .mp b, v, hv => by
    simp only [VR] at *
    obtain ⟨p, hp, e⟩ := hv
    exact ⟨p, h _ _ hp, e⟩
  | .fn f fst caps, v, hv => by
    simp only [VR] at *
    obtain ⟨fs, cs, e, hf, hc⟩ := hv
    exact ⟨fs, cs, e, VRs.mono h fst _ hf, VRs.mono h caps _ hc⟩
  | .agg caps, v, hv | .tup caps, v, hv => by
    simp only [VR] at *
    obtain ⟨cs, e, hc⟩ := hv
    exact ⟨cs, e, VRs.mono h caps _ hc⟩
  | .ifc t x, v, hv => by
    simp only [VR] at *
    obtain ⟨u, e, hc⟩ := hv
    exact ⟨u, e, VR.mono h x _ hc⟩
theorem VRs.mono {μ μ' : LMap} (h : ∀ b p, μ b = some p → μ' b = some p) : ∀ (d : List DV) (v : List Value), VRs μ d v → VRs μ' d v
  | [], [], _ => by simp only [VRs]
  | a :: l, b :: m, hv => by
    simp only [VRs] at *
    exact ⟨VR.mono h a b hv.1, VRs.mono h l m hv.2⟩
  | [], _ :: _, hv => by simp only [VRs] at hv
  | _ :: _, [], hv => by simp only [VRs] at hv
end

mutual
theorem DV.lt_mono {g g' : Nat} (h : g ≤ g') : ∀ (d : DV), d.lt g = true → d.lt g' = true
  | .bool _, _ | .int _ _, _ | .flt _ _, _ | .str _, _ | .nilp, _ | .nils, _ | .nilm, _ | .nilf, _ | .nili, _ => by simp [DV.lt]
  | .ptr b _, hd | .sl b _ _ _ _, hd | .mp b, hd => by simp only [DV.lt, decide_eq_true_eq] at *; omega
  | .fn _ k l, hd => by simp only [DV.lt, Bool.and_eq_true] at *; exact ⟨DV.lts_mono h k hd.1, DV.lts_mono h l hd.2⟩
  | .agg l, hd | .tup l, hd => by simp only [DV.lt] at *; exact DV.lts_mono h l hd
  | .ifc _ x, hd => by simp only [DV.lt] at *; exact DV.lt_mono h x hd
theorem DV.lts_mono {g g' : Nat} (h : g ≤ g') : ∀ (d : List DV), DV.lts g d = true → DV.lts g' d = true
  | [], _ => by simp [DV.lts]
  | a :: l, hd => by
    simp only [DV.lts, Bool.and_eq_true] at *
    exact ⟨DV.lt_mono h a hd.1, DV.lts_mono h l hd.2⟩
end

/-! ### Lists of values -/
section
variable {μ : LMap}

theorem VRs.len : ∀ {l : List DV} {m : List Value}, VRs μ l m → l.length = m.length
  | [], [], _ => rfl
  | _ :: _, _ :: _, h => by simp only [VRs] at h; simp [VRs.len h.2]
  | [], _ :: _, h => by simp only [VRs] at h
  | _ :: _, [], h => by simp only [VRs] at h

theorem VRs.get : ∀ {l : List DV} {m : List Value}, VRs μ l m → ∀ {i : Nat} {v : DV}, l[i]? = some v → ∃ u, m[i]? = some u ∧ VR μ v u
  | [], [], _, i, v, hi => by simp at hi
  | a :: l, b :: m, h, 0, v, hi => by
    simp only [VRs] at h
    simp at hi
    subst hi
    exact ⟨b, by simp, h.1⟩
  | a :: l, b :: m, h, i + 1, v, hi => by
    simp only [VRs] at h
    simp at hi
    obtain ⟨u, hu, hv⟩ := VRs.get h.2 hi
    exact ⟨u, by simpa using hu, hv⟩
  | [], _ :: _, h, _, _, _ => by simp only [VRs] at h
  | _ :: _, [], h, _, _, _ => by simp only [VRs] at h

theorem VRs.of_get : ∀ {l : List DV} {m : List Value}, l.length = m.length → (∀ (i : Nat) (v : DV) (u : Value), l[i]? = some v → m[i]? = some u → VR μ v u) → VRs μ l m
  | [], [], _, _ => by simp only [VRs]
  | a :: l, b :: m, hl, h => by
    simp only [VRs]
    refine ⟨h 0 a b rfl rfl, VRs.of_get (by simpa using hl) fun i v u hv hu => h (i + 1) v u (by simpa using hv) (by simpa using hu)⟩
  | [], _ :: _, hl, _ => by simp at hl
  | _ :: _, [], hl, _ => by simp at hl

theorem VRs.append {l l' : List DV} {m m' : List Value} (h : VRs μ l m) (h' : VRs μ l' m') : VRs μ (l ++ l') (m ++ m') := by
  induction l generalizing m with
  | nil => cases m with
    | nil => simpa using h'
    | cons _ _ => simp only [VRs] at h
  | cons a l ih => cases m with
    | nil => simp only [VRs] at h
    | cons b m =>
      simp only [VRs, List.cons_append] at *
      exact ⟨h.1, ih h.2⟩

theorem VRs.take {l : List DV} {m : List Value} (h : VRs μ l m) (n : Nat) : VRs μ (l.take n) (m.take n) := by
  induction l generalizing m n with
  | nil => cases m with
    | nil => simpa using h
    | cons _ _ => simp only [VRs] at h
  | cons a l ih => cases m with
    | nil => simp only [VRs] at h
    | cons b m => cases n with
      | zero => simp [VRs]
      | succ n =>
        simp only [VRs, List.take_succ_cons] at *
        exact ⟨h.1, ih h.2 n⟩

theorem VRs.drop {l : List DV} {m : List Value} (h : VRs μ l m) (n : Nat) : VRs μ (l.drop n) (m.drop n) := by
  induction l generalizing m n with
  | nil => cases m with
    | nil => simpa using h
    | cons _ _ => simp only [VRs] at h
  | cons a l ih => cases m with
    | nil => simp only [VRs] at h
    | cons b m => cases n with
      | zero => simpa using h
      | succ n =>
        simp only [VRs, List.drop_succ_cons] at *
        exact ih h.2 n

theorem DV.lts_append {g : Nat} {l l' : List DV} : DV.lts g (l ++ l') = (DV.lts g l && DV.lts g l') := by
  induction l with
  | nil => simp [DV.lts]
  | cons a l ih => simp [DV.lts, ih, Bool.and_assoc]

theorem DV.lts_get {g : Nat} : ∀ {l : List DV} {i : Nat} {v : DV}, DV.lts g l = true → l[i]? = some v → v.lt g = true
  | [], _, _, _, hi => by simp at hi
  | a :: l, 0, v, h, hi => by simp [DV.lts] at *; subst hi; exact h.1
  | a :: l, i + 1, v, h, hi => by simp [DV.lts] at *; exact DV.lts_get h.2 hi

theorem DV.lts_take {g : Nat} {l : List DV} (n : Nat) (h : DV.lts g l = true) : DV.lts g (l.take n) = true := by
  induction l generalizing n with
  | nil => simpa using h
  | cons a l ih => cases n with
    | zero => simp [DV.lts]
    | succ n => simp only [DV.lts, List.take_succ_cons, Bool.and_eq_true] at *; exact ⟨h.1, ih n h.2⟩

theorem DV.lts_drop {g : Nat} {l : List DV} (n : Nat) (h : DV.lts g l = true) : DV.lts g (l.drop n) = true := by
  induction l generalizing n with
  | nil => simpa using h
  | cons a l ih => cases n with
    | zero => simpa using h
    | succ n => simp only [DV.lts, List.drop_succ_cons, Bool.and_eq_true] at *; exact ih n h.2

theorem DV.lts_cells {g : Nat} {v : DV} (h : v.lt g = true) : DV.lts g v.cells = true := by
  cases v <;> simp_all [DV.cells, DV.lt, DV.lts]

theorem VR.cells {v : DV} {u : Value} (h : VR μ v u) : VRs μ v.cells u.cells.toList := by
  cases v <;> simp only [VR] at h
  case agg l => obtain ⟨cs, rfl, h⟩ := h; simpa [DV.cells, Value.cells] using h
  case ptr => obtain ⟨p, hp, rfl⟩ := h; simp [DV.cells, Value.cells, VRs, VR, hp]
  case sl => obtain ⟨p, hp, a, c', rfl, h⟩ := h; simp only [DV.cells, Value.cells, VRs, VR, and_true]; exact ⟨p, hp, a, c', rfl, h⟩
  case mp => obtain ⟨p, hp, rfl⟩ := h; simp [DV.cells, Value.cells, VRs, VR, hp]
  case fn => obtain ⟨fs, cs, rfl, h⟩ := h; simp only [DV.cells, Value.cells, VRs, VR, and_true]; exact ⟨fs, cs, rfl, h⟩
  case ifc => obtain ⟨u, rfl, h⟩ := h; simp only [DV.cells, Value.cells, VRs, VR, and_true]; exact ⟨u, rfl, h⟩
  case tup => obtain ⟨cs, rfl, h⟩ := h; simp only [DV.cells, Value.cells, VRs, VR, and_true]; exact ⟨cs, rfl, h⟩
  all_goals (subst h; simp [DV.cells, Value.cells, VRs, VR])

theorem VR.one {v : DV} {u : Value} (h : VR μ v u) (h1 : v.one = true) : u.oneCell' = true := by
  cases v <;> simp only [VR] at h <;> simp only [DV.one] at h1
  case agg => cases h1
  case tup => cases h1
  case ptr => obtain ⟨p, hp, rfl⟩ := h; rfl
  case sl => obtain ⟨p, hp, a, c', rfl, h⟩ := h; rfl
  case mp => obtain ⟨p, hp, rfl⟩ := h; rfl
  case fn => obtain ⟨fs, cs, rfl, h⟩ := h; rfl
  case ifc => obtain ⟨u, rfl, h⟩ := h; rfl
  all_goals (subst h; rfl)

theorem VR.cellsLen {v : DV} {u : Value} (h : VR μ v u) : u.cells.size = v.cells.length := by
  have := VRs.len h.cells
  simpa using this.symm
end

/-! ### The heap -/

/-- what lies at a place of the model's memory -/
def CellsR (μ : LMap) (W : World) (p : Loc) (cs : List DV) (ty : Nat) : Prop :=
  ∃ (cc : Array Value) (fr : Nat × Nat), W.heap[p.blk]? = some (.cells cc ty fr) ∧ cc.size = p.room ∧ p.base + cs.length ≤ p.room ∧
    ∀ (i : Nat) (v : DV), cs[i]? = some v → ∃ u, cc[p.base + i]? = some u ∧ VR μ v u

/-- the entries of a map of the model -/
def EntsR (μ : LMap) : List Ent → List MapEntry → Prop
  | [], [] => True
  | e :: es, x :: xs => VR μ e.k x.key ∧ VR μ e.v x.val ∧ e.born = x.born ∧ EntsR μ es xs
  | _, _ => False

/-- what lies at a place of the model's memory, whatever it is -/
def BlkR (μ : LMap) (W : World) (p : Loc) : Blk → Prop
  | .cells cs ty => CellsR μ W p cs ty
  | .map es clock => p.base = 0 ∧ p.room = 0 ∧ ∃ xs : Array MapEntry, W.heap[p.blk]? = some (.map xs clock) ∧ EntsR μ es xs.toList
  | .iter m since seen stepped => p.base = 0 ∧ p.room = 0 ∧ match m with
    | none => W.heap[p.blk]? = some (.mapIter none since seen.toArray stepped)
    | some b => ∃ q, μ b = some q ∧ W.heap[p.blk]? = some (.mapIter (some q.blk) since seen.toArray stepped)
  | .gone => True

structure RelG (m : Nat) (μ : LMap) (G : Nat → Blk → Prop) (W : World) : Prop where
  br : ∀ b x p, G b x → μ b = some p → BlkR μ W p x
  wr : ∀ b x p, m ≤ b → G b x → x ≠ .gone → μ b = some p →
    (∀ o, o < p.room → W.frozen? ⟨p.blk, o, none⟩ = false) ∧
    ∀ b' x' p', b' ≠ b → G b' x' → x' ≠ .gone → μ b' = some p' → p'.blk ≠ p.blk
  bd : ∀ b p, μ b = some p → p.blk < W.heap.size

structure Rel (m : Nat) (μ : LMap) (H : DH) (W : World) : Prop where
  g : RelG m μ (fun b x => H[b]? = some x) W
  dom : ∀ b, H.length ≤ b → μ b = none

def WFH (H : DH) : Prop := ∀ (b : Nat) (x : Blk), H[b]? = some x → DV.lts H.length x.vals = true

/-- What is not a block that may be written lies as it lay. -/
structure Kept (m : Nat) (μ : LMap) (H : DH) (W W' : World) : Prop where
  os : W'.os = W.os
  tape : W'.tape = W.tape
  output : W'.output = W.output
  size : W.heap.size ≤ W'.heap.size
  block : ∀ k, k < W.heap.size → (∀ (b : Nat) (x : Blk) (p : Loc), m ≤ b → H[b]? = some x → x ≠ .gone → μ b = some p → p.blk ≠ k) → W'.heap[k]? = W.heap[k]?

theorem Kept.refl {m : Nat} {μ : LMap} {H : DH} {W : World} : Kept m μ H W W := ⟨rfl, rfl, rfl, Nat.le_refl _, fun _ _ _ => rfl⟩

/-- Each block lies in new memory, or where one lay; one that may be written, where one lay that might be written. -/
def Fresh (m : Nat) (μ : LMap) (H : DH) (W : World) (μ' : LMap) (H' : DH) : Prop :=
  ∀ (b : Nat) (x : Blk) (p : Loc), H'[b]? = some x → x ≠ .gone → μ' b = some p →
    W.heap.size ≤ p.blk ∨ ∃ (b0 : Nat) (x0 : Blk) (p0 : Loc), (m ≤ b → m ≤ b0) ∧ H[b0]? = some x0 ∧ x0 ≠ .gone ∧ μ b0 = some p0 ∧ p0.blk = p.blk

theorem Fresh.refl {m : Nat} {μ : LMap} {H : DH} {W : World} : Fresh m μ H W μ H := fun b x p h2 h3 h4 => .inr ⟨b, x, p, id, h2, h3, h4, rfl⟩

theorem Kept.trans {m : Nat} {μ μ1 : LMap} {H H1 : DH} {W W1 W2 : World} (h : Kept m μ H W W1) (hf : Fresh m μ H W μ1 H1) (h' : Kept m μ1 H1 W1 W2) : Kept m μ H W W2 :=
  ⟨h'.os.trans h.os, h'.tape.trans h.tape, h'.output.trans h.output, Nat.le_trans h.size h'.size, fun k hk hno => by
    have h1 := h.block k hk hno
    rw [← h1]
    refine h'.block k (Nat.lt_of_lt_of_le hk h.size) fun b x p hm hx hg hp e => ?_
    rcases hf b x p hx hg hp with h2 | ⟨b0, x0, p0, g1, g2, g3, g4, g5⟩
    · omega
    · exact hno b0 x0 p0 (g1 hm) g2 g3 g4 (g5.trans e)⟩

theorem Fresh.trans {m : Nat} {μ μ1 μ2 : LMap} {H H1 H2 : DH} {W W1 : World} (hs : W.heap.size ≤ W1.heap.size) (h : Fresh m μ H W μ1 H1) (h' : Fresh m μ1 H1 W1 μ2 H2) : Fresh m μ H W μ2 H2 := by
  intro b x p hx hg hp
  rcases h' b x p hx hg hp with h2 | ⟨b0, x0, p0, g1, g2, g3, g4, g5⟩
  · exact .inl (by omega)
  · rcases h b0 x0 p0 g2 g3 g4 with h3 | ⟨b1, x1, p1, k1, k2, k3, k4, k5⟩
    · exact .inl (by omega)
    · exact .inr ⟨b1, x1, p1, fun hm => k1 (g1 hm), k2, k3, k4, k5.trans g5⟩

/-- What one step comes to. -/
structure Out (m : Nat) (μ : LMap) (H : DH) (W : World) (v : DV) (H' : DH) (μ' : LMap) (u : Value) (W' : World) : Prop where
  old : ∀ b, b < H.length → μ' b = μ b
  rel : Rel m μ' H' W'
  val : VR μ' v u
  kept : Kept m μ H W W'
  fresh : Fresh m μ H W μ' H'

theorem Out.same {m : Nat} {μ : LMap} {H : DH} {W : World} {v : DV} {u : Value} (hr : Rel m μ H W) (hv : VR μ v u) : Out m μ H W v H μ u W :=
  ⟨fun _ _ => rfl, hr, hv, Kept.refl, Fresh.refl⟩

/-- A new block. -/
def upd (μ : LMap) (b : Nat) (p : Loc) : LMap := fun b' => if b' = b then some p else μ b'

theorem upd_mono {μ : LMap} {b : Nat} {p : Loc} (h : μ b = none) : ∀ b' p', μ b' = some p' → upd μ b p b' = some p' := by
  intro b' p' hb
  unfold upd
  by_cases e : b' = b
  · subst e; rw [h] at hb; cases hb
  · rw [if_neg e]; exact hb

theorem CellsR.mono {μ μ' : LMap} {W W' : World} {p : Loc} {cs : List DV} {ty : Nat} (h : CellsR μ W p cs ty) (hm : ∀ b p, μ b = some p → μ' b = some p)
    (hw : W'.heap[p.blk]? = W.heap[p.blk]?) : CellsR μ' W' p cs ty := by
  obtain ⟨cc, fr, h1, h2, h3, h4⟩ := h
  exact ⟨cc, fr, hw.trans h1, h2, h3, fun i v hv => let ⟨u, hu, hr⟩ := h4 i v hv; ⟨u, hu, VR.mono hm _ _ hr⟩⟩

theorem EntsR.mono {μ μ' : LMap} (hm : ∀ b p, μ b = some p → μ' b = some p) : ∀ {es : List Ent} {xs : List MapEntry}, EntsR μ es xs → EntsR μ' es xs
  | [], [], _ => by simp only [EntsR]
  | e :: es, x :: xs, h => by
    simp only [EntsR] at *
    exact ⟨VR.mono hm _ _ h.1, VR.mono hm _ _ h.2.1, h.2.2.1, EntsR.mono hm h.2.2.2⟩
  | [], _ :: _, h => by simp only [EntsR] at h
  | _ :: _, [], h => by simp only [EntsR] at h

theorem BlkR.mono {μ μ' : LMap} {W W' : World} {p : Loc} {x : Blk} (h : BlkR μ W p x) (hm : ∀ b p, μ b = some p → μ' b = some p) (hw : W'.heap[p.blk]? = W.heap[p.blk]?) : BlkR μ' W' p x := by
  cases x with
  | cells cs ty => exact CellsR.mono (μ := μ) h hm hw
  | map es clock =>
    obtain ⟨h1, h2, xs, h3, h4⟩ := h
    exact ⟨h1, h2, xs, hw.trans h3, h4.mono hm⟩
  | iter m since seen stepped =>
    cases m with
    | none => obtain ⟨h1, h2, h3⟩ := h; exact ⟨h1, h2, hw.trans h3⟩
    | some b => obtain ⟨h1, h2, q, h3, h4⟩ := h; exact ⟨h1, h2, q, hm _ _ h3, hw.trans h4⟩
  | gone => trivial

theorem EntsR.mono' {μ μ' : LMap} {g : Nat} (hm : ∀ b p, b < g → μ b = some p → μ' b = some p) : ∀ {es : List Ent} {xs : List MapEntry}, DV.lts g (entVals es) = true → EntsR μ es xs → EntsR μ' es xs
  | [], [], _, _ => by simp only [EntsR]
  | e :: es, x :: xs, hl, h => by
    simp only [EntsR, entVals, DV.lts, Bool.and_eq_true] at *
    exact ⟨VR.mono' hm _ _ hl.1 h.1, VR.mono' hm _ _ hl.2.1 h.2.1, h.2.2.1, EntsR.mono' hm hl.2.2 h.2.2.2⟩
  | [], _ :: _, _, h => by simp only [EntsR] at h
  | _ :: _, [], _, h => by simp only [EntsR] at h

theorem BlkR.mono' {μ μ' : LMap} {W W' : World} {p : Loc} {x : Blk} {g : Nat} (h : BlkR μ W p x) (hl : DV.lts g x.vals = true) (hm : ∀ b p, b < g → μ b = some p → μ' b = some p) (hw : W'.heap[p.blk]? = W.heap[p.blk]?) : BlkR μ' W' p x := by
  cases x with
  | cells cs ty =>
    obtain ⟨cc, fr, h1, h2, h3, h4⟩ := h
    exact ⟨cc, fr, hw.trans h1, h2, h3, fun i v hv => let ⟨u, hu, hr⟩ := h4 i v hv; ⟨u, hu, VR.mono' hm _ _ (DV.lts_get hl hv) hr⟩⟩
  | map es clock =>
    obtain ⟨h1, h2, xs, h3, h4⟩ := h
    exact ⟨h1, h2, xs, hw.trans h3, h4.mono' hm hl⟩
  | iter m since seen stepped =>
    cases m with
    | none => obtain ⟨h1, h2, h3⟩ := h; exact ⟨h1, h2, hw.trans h3⟩
    | some b =>
      obtain ⟨h1, h2, q, h3, h4⟩ := h
      refine ⟨h1, h2, q, hm _ _ ?_ h3, hw.trans h4⟩
      simpa [Blk.vals, DV.lts, DV.lt] using hl
  | gone => trivial

theorem frozen_of_block {w w' : World} {k o : Nat} (h : w'.heap[k]? = w.heap[k]?) : w'.frozen? ⟨k, o, none⟩ = w.frozen? ⟨k, o, none⟩ := by
  unfold World.frozen?
  rw [h]

/-- W' is W with one new block. -/
structure Alloc (W W' : World) (o : Obj) : Prop where
  os : W'.os = W.os
  tape : W'.tape = W.tape
  output : W'.output = W.output
  heap : W'.heap = W.heap.push o

theorem Alloc.alloc (W : World) (o : Obj) : Alloc W (W.alloc o) o := ⟨rfl, rfl, rfl, rfl⟩
theorem Alloc.old {W W' : World} {o : Obj} (h : Alloc W W' o) {k : Nat} (hk : k < W.heap.size) : W'.heap[k]? = W.heap[k]? := by
  rw [h.heap, Array.getElem?_push, if_neg (by omega)]
theorem Alloc.new {W W' : World} {o : Obj} (h : Alloc W W' o) : W'.heap[W.heap.size]? = some o := by
  rw [h.heap]; simp
theorem Alloc.size {W W' : World} {o : Obj} (h : Alloc W W' o) : W'.heap.size = W.heap.size + 1 := by
  rw [h.heap]; simp

theorem Alloc.kept {m : Nat} {μ : LMap} {H : DH} {W W' : World} {o : Obj} (h : Alloc W W' o) : Kept m μ H W W' :=
  ⟨h.os, h.tape, h.output, by rw [h.size]; omega, fun _ hk _ => h.old hk⟩

theorem get_append_one {H : DH} {x : Blk} {b : Nat} {y : Blk} (h : (H ++ [x])[b]? = some y) : (b < H.length ∧ H[b]? = some y) ∨ (b = H.length ∧ x = y) := by
  by_cases hb : b < H.length
  · rw [List.getElem?_append_left hb] at h; exact .inl ⟨hb, h⟩
  · rw [List.getElem?_append_right (by omega)] at h
    by_cases e : b = H.length
    · subst e; simp at h; exact .inr ⟨rfl, h⟩
    · rw [List.getElem?_eq_none (by simp; omega)] at h; cases h

/-- **A new block.** -/
theorem Rel.alloc' {m : Nat} {μ : LMap} {H : DH} {W W' : World} (hr : Rel m μ H W) {x : Blk} {o : Obj} {q : Loc} (hq : q.blk = W.heap.size) (ha : Alloc W W' o)
    (hb : BlkR (upd μ H.length q) W' q x) (hfr : ∀ o, o < q.room → W'.frozen? ⟨q.blk, o, none⟩ = false) :
    Rel m (upd μ H.length q) (H ++ [x]) W' := by
  have hn : μ H.length = none := hr.dom _ (Nat.le_refl _)
  have hmono := upd_mono (p := q) hn
  have hold : ∀ b p, upd μ H.length q b = some p → b < H.length → μ b = some p := by
    intro b p h hb; unfold upd at h; rw [if_neg (by omega)] at h; exact h
  have hnew : ∀ p, upd μ H.length q H.length = some p → p = q := by
    intro p h; unfold upd at h; rw [if_pos rfl] at h; exact (Option.some.inj h).symm
  refine ⟨⟨?_, ?_, ?_⟩, ?_⟩
  · intro b y p hg hp
    rcases get_append_one hg with ⟨hb', hg⟩ | ⟨rfl, e⟩
    · have hp := hold b p hp hb'
      exact (hr.g.br b y p hg hp).mono hmono (ha.old (hr.g.bd b p hp))
    · subst e
      rw [hnew p hp]; exact hb
  · intro b y p hm hg hl hp
    rcases get_append_one hg with ⟨hb', hg⟩ | ⟨rfl, e⟩
    · have hp := hold b p hp hb'
      obtain ⟨h2, h3⟩ := hr.g.wr b y p hm hg hl hp
      refine ⟨fun o ho => (frozen_of_block (ha.old (hr.g.bd b p hp))).trans (h2 o ho), ?_⟩
      intro b' y' p' hne hg' hl' hp'
      rcases get_append_one hg' with ⟨hb', hg'⟩ | ⟨rfl, e'⟩
      · exact h3 b' y' p' hne hg' hl' (hold b' p' hp' hb')
      · rw [hnew p' hp']
        have := hr.g.bd b p hp
        omega
    · rw [hnew p hp]
      refine ⟨hfr, ?_⟩
      intro b' y' p' hne hg' hl' hp'
      rcases get_append_one hg' with ⟨hb', hg'⟩ | ⟨rfl, e'⟩
      · have := hr.g.bd b' p' (hold b' p' hp' hb')
        omega
      · exact absurd rfl hne
  · intro b p hp
    by_cases e : b = H.length
    · subst e; rw [hnew p hp, ha.size]; omega
    · have : μ b = some p := by unfold upd at hp; rw [if_neg e] at hp; exact hp
      have := hr.g.bd b p this
      rw [ha.size]; omega
  · intro b hb
    simp at hb
    unfold upd
    rw [if_neg (by omega)]
    exact hr.dom b (by omega)

theorem Rel.alloc {m : Nat} {μ : LMap} {H : DH} {W W' : World} (hr : Rel m μ H W) {cs : List DV} {cc : Array Value} {ty : Nat} {fr : Nat × Nat}
    (ha : Alloc W W' (.cells cc ty fr)) (hfr : ∀ o, o < cc.size → ¬ (fr.1 ≤ o ∧ o < fr.2)) (hlen : cs.length ≤ cc.size)
    (hv : ∀ (i : Nat) (v : DV), cs[i]? = some v → ∃ u, cc[i]? = some u ∧ VR μ v u) :
    Rel m (upd μ H.length ⟨W.heap.size, 0, cc.size⟩) (H ++ [.cells cs ty]) W' := by
  have hn : μ H.length = none := hr.dom _ (Nat.le_refl _)
  have hmono := upd_mono (p := ⟨W.heap.size, 0, cc.size⟩) hn
  refine hr.alloc' rfl ha ⟨cc, fr, ha.new, rfl, by simpa using hlen, fun i v hi => by
        obtain ⟨u, hu, hvr⟩ := hv i v hi
        exact ⟨u, by simpa using hu, VR.mono hmono _ _ hvr⟩⟩ fun o ho => ?_
  have := hfr o ho
  unfold World.frozen?
  simp only [ha.new]
  by_cases h1 : fr.1 ≤ o
  · have : ¬ o < fr.2 := fun h2 => this ⟨h1, h2⟩
    simp [h1, this]
  · simp [h1]

/-- what is new lies in new memory -/
theorem Fresh.alloc {m : Nat} {μ : LMap} {H : DH} {W : World} {q : Loc} {x : Blk} (hq : W.heap.size ≤ q.blk) : Fresh m μ H W (upd μ H.length q) (H ++ [x]) := by
  intro b y p hx hl hp
  rcases get_append_one hx with ⟨hb, hx⟩ | ⟨rfl, _⟩
  · refine .inr ⟨b, y, p, id, hx, hl, ?_, rfl⟩
    unfold upd at hp; rw [if_neg (by omega)] at hp; exact hp
  · unfold upd at hp; rw [if_pos rfl] at hp
    exact .inl (by rw [← Option.some.inj hp]; exact hq)

theorem upd_old {μ : LMap} {n : Nat} {p : Loc} : ∀ b, b < n → upd μ n p b = μ b := by
  intro b hb; unfold upd; rw [if_neg (by omega)]
theorem upd_only {μ : LMap} {n : Nat} {q : Loc} (hd : ∀ b, n ≤ b → μ b = none) : ∀ b p, n ≤ b → upd μ n q b = some p → p = q := by
  intro b p hb hp
  unfold upd at hp
  by_cases e : b = n
  · rw [if_pos e] at hp; exact (Option.some.inj hp).symm
  · rw [if_neg e, hd b hb] at hp; cases hp
theorem upd_new {μ : LMap} {n : Nat} {p : Loc} : upd μ n p n = some p := by unfold upd; rw [if_pos rfl]

end Go.Proofs.Sh

namespace Go.Proofs.Sh
open Go Go.RowKit

theorem add_eq (k base i : Nat) : (⟨k, base, none⟩ : Addr).add i = ⟨k, base + i, none⟩ := by
  unfold Addr.add
  by_cases h : i = 0
  · simp [h]
  · simp [h]

/-! ### A row of stores -/

def setRow : World → Nat → Nat → List Value → World
  | w, _, _, [] => w
  | w, k, o, u :: us => setRow (w.setCell ⟨k, o, none⟩ u) k (o + 1) us

theorem setCell_heap {w : World} {k o : Nat} {u : Value} {cc : Array Value} {ty : Nat} {fr : Nat × Nat} (h : w.heap[k]? = some (.cells cc ty fr)) :
    (w.setCell ⟨k, o, none⟩ u).heap[k]? = some (.cells (cc.setIfInBounds o u) ty fr) := by
  simp only [World.setCell, Array.getElem?_modify, if_true, h]
  rfl

theorem setCell_other {w : World} {k o : Nat} {u : Value} {k' : Nat} (h : k' ≠ k) : (w.setCell ⟨k, o, none⟩ u).heap[k']? = w.heap[k']? := by
  simp only [World.setCell, Array.getElem?_modify]
  rw [if_neg (by omega)]

structure RowSet (w w' : World) (k off : Nat) (us : List Value) (cc cc' : Array Value) (ty : Nat) (fr : Nat × Nat) : Prop where
  os : w'.os = w.os
  tape : w'.tape = w.tape
  output : w'.output = w.output
  drawn : w'.drawn = w.drawn
  size : w'.heap.size = w.heap.size
  other : ∀ k', k' ≠ k → w'.heap[k']? = w.heap[k']?
  here : w'.heap[k]? = some (.cells cc' ty fr)
  csize : cc'.size = cc.size
  cell : ∀ i, cc'[i]? = if off ≤ i ∧ i < off + us.length then us[i - off]? else cc[i]?

theorem setRow_spec (k : Nat) (ty : Nat) (fr : Nat × Nat) : ∀ (us : List Value) (off : Nat) (w : World) (cc : Array Value), w.heap[k]? = some (.cells cc ty fr) → off + us.length ≤ cc.size →
    ∃ cc', RowSet w (setRow w k off us) k off us cc cc' ty fr
  | [], off, w, cc, h, _ => ⟨cc, rfl, rfl, rfl, rfl, rfl, fun _ _ => rfl, h, rfl, fun i => by rw [if_neg (by simp)]⟩
  | u :: us, off, w, cc, h, hl => by
    simp only [List.length_cons] at hl
    have h1 := setCell_heap (o := off) (u := u) h
    obtain ⟨cc', r⟩ := setRow_spec k ty fr us (off + 1) (w.setCell ⟨k, off, none⟩ u) (cc.setIfInBounds off u) h1 (by simp; omega)
    refine ⟨cc', r.os, r.tape, r.output, r.drawn, by rw [show setRow w k off (u :: us) = setRow (w.setCell ⟨k, off, none⟩ u) k (off + 1) us from rfl, r.size]; simp [World.setCell], fun k' hk => (r.other k' hk).trans (setCell_other hk), r.here, by rw [r.csize]; simp, fun i => ?_⟩
    rw [r.cell i]
    simp only [List.length_cons, Array.getElem?_setIfInBounds]
    by_cases e : i = off
    · subst e
      rw [if_neg (by omega), if_pos rfl, if_pos (by omega), if_pos (by omega)]
      simp
    · by_cases e2 : off + 1 ≤ i ∧ i < off + 1 + us.length
      · rw [if_pos e2, if_pos (by omega)]
        rw [show i - off = (i - (off + 1)) + 1 from by omega, List.getElem?_cons_succ]
      · rw [if_neg e2, if_neg (by omega), if_neg (by omega)]

theorem run_storeCells (P : Program) (k base ty : Nat) (fr : Nat × Nat) : ∀ (us : List Value) (i : Nat) (w : World) (cc : Array Value), w.heap[k]? = some (.cells cc ty fr) → base + i + us.length ≤ cc.size →
    (∀ o, base + i ≤ o → o < base + i + us.length → w.frozen? ⟨k, o, none⟩ = false) → (∀ u ∈ us, u.oneCell' = true) →
    (storeCells ⟨k, base, none⟩ us i).run P w = .ok () (setRow w k (base + i) us)
  | [], i, w, cc, _, _, _, _ => by unfold storeCells; rfl
  | u :: us, i, w, cc, h, hl, hf, ho => by
    simp only [List.length_cons] at hl hf
    unfold storeCells
    simp only [Sem.run_bind, add_eq]
    rw [run_store P w _ u .plain (ho u (by simp))]
    have hc : w.cell? ⟨k, base + i, none⟩ = cc[base + i]? := by simp [World.cell?, h]
    have hlt : base + i < cc.size := by omega
    rw [hc, Array.getElem?_eq_getElem hlt]
    simp only [hf (base + i) (Nat.le_refl _) (by omega), Bool.false_eq_true, if_false, Result.andThen_ok]
    rw [run_storeCells P k base ty fr us (i + 1) _ (cc.setIfInBounds (base + i) u) (setCell_heap h) (by simp; omega) (fun o h1 h2 => by
      rw [World.frozen?_setCell]; exact hf o (by omega) (by omega)) (fun v hv => ho v (by simp [hv]))]
    rfl

/-! ### Stores into a block of the shadow -/

theorem set_get {H : DH} {b : Nat} {x : Blk} {b' : Nat} {y : Blk} (h : (H.set b x)[b']? = some y) : (b' = b ∧ x = y ∧ b < H.length) ∨ (b' ≠ b ∧ H[b']? = some y) := by
  rw [List.getElem?_set] at h
  by_cases e : b = b'
  · subst e
    rw [if_pos rfl] at h
    by_cases hb : b < H.length
    · rw [if_pos hb] at h; exact .inl ⟨rfl, Option.some.inj h, hb⟩
    · rw [if_neg hb] at h; cases h
  · rw [if_neg e] at h
    exact .inr ⟨fun h => e h.symm, h⟩

def splice (cs : List DV) (o : Nat) (vs : List DV) : List DV := cs.take o ++ vs ++ cs.drop (o + vs.length)

theorem splice_len {cs : List DV} {o : Nat} {vs : List DV} (h : o + vs.length ≤ cs.length) : (splice cs o vs).length = cs.length := by
  unfold splice; simp; omega

theorem splice_get {cs : List DV} {o : Nat} {vs : List DV} (h : o + vs.length ≤ cs.length) (i : Nat) :
    (splice cs o vs)[i]? = if o ≤ i ∧ i < o + vs.length then vs[i - o]? else cs[i]? := by
  unfold splice
  by_cases h1 : i < o
  · rw [List.append_assoc, List.getElem?_append_left (by simp; omega), List.getElem?_take, if_pos h1, if_neg (by omega)]
  · by_cases h2 : i < o + vs.length
    · rw [List.append_assoc, List.getElem?_append_right (by simp; omega), List.getElem?_append_left (by simp; omega), if_pos ⟨by omega, h2⟩]
      congr 1
      simp; omega
    · rw [List.getElem?_append_right (by simp; omega), List.getElem?_drop, if_neg (by omega)]
      congr 1
      simp; omega

/-- One block that may be written gets other values; the model's block too. -/
theorem Rel.set' {m : Nat} {μ : LMap} {H : DH} {W W' : World} {b : Nat} {x x' : Blk} {p : Loc} (hr : Rel m μ H W) (hm : m ≤ b) (hg : H[b]? = some x) (hl : x ≠ .gone) (hp : μ b = some p)
    (other : ∀ k, k ≠ p.blk → W'.heap[k]? = W.heap[k]?) (hsz : W.heap.size ≤ W'.heap.size) (hb : BlkR μ W' p x') (hfz : ∀ o, o < p.room → W'.frozen? ⟨p.blk, o, none⟩ = false)
    (os : W'.os = W.os) (tape : W'.tape = W.tape) (output : W'.output = W.output) : Rel m μ (H.set b x') W' ∧ Kept m μ H W W' ∧ Fresh m μ H W μ (H.set b x') := by
  obtain ⟨_, hdis⟩ := hr.g.wr b x p hm hg hl hp
  refine ⟨⟨⟨?_, ?_, ?_⟩, ?_⟩, ⟨os, tape, output, hsz, ?_⟩, ?_⟩
  · intro b' y p' hg' hp'
    rcases set_get hg' with ⟨rfl, e', _⟩ | ⟨hne, hg'⟩
    · subst e'
      have : p' = p := by rw [hp] at hp'; exact (Option.some.inj hp').symm
      subst this
      exact hb
    · by_cases hy : y = .gone
      · subst hy; trivial
      · exact (hr.g.br b' y p' hg' hp').mono (fun _ _ h => h) (other _ (hdis b' y p' hne hg' hy hp'))
  · intro b' y p' hm' hg' hy hp'
    rcases set_get hg' with ⟨rfl, e', _⟩ | ⟨hne, hg'⟩
    · have : p' = p := by rw [hp] at hp'; exact (Option.some.inj hp').symm
      subst this
      refine ⟨hfz, fun b2 y2 p2 hne hg2 hy2 hp2 => ?_⟩
      rcases set_get hg2 with ⟨rfl, _, _⟩ | ⟨_, hg2⟩
      · exact absurd rfl hne
      · exact hdis b2 y2 p2 hne hg2 hy2 hp2
    · obtain ⟨k2, k3⟩ := hr.g.wr b' y p' hm' hg' hy hp'
      refine ⟨fun o' ho' => by rw [frozen_of_block (other _ (hdis b' y p' hne hg' hy hp'))]; exact k2 o' ho', fun b2 y2 p2 hne2 hg2 hy2 hp2 => ?_⟩
      rcases set_get hg2 with ⟨rfl, _, _⟩ | ⟨_, hg2⟩
      · exact k3 _ x p2 hne2 hg hl hp2
      · exact k3 b2 y2 p2 hne2 hg2 hy2 hp2
  · intro b' p' hp'
    exact Nat.lt_of_lt_of_le (hr.g.bd b' p' hp') hsz
  · intro b' hb'
    exact hr.dom b' (by simpa using hb')
  · intro k hk hno
    exact other k fun hkp => hno b x p hm hg hl hp hkp.symm
  · intro b' y p' hg' hy hp'
    rcases set_get hg' with ⟨rfl, _, _⟩ | ⟨_, hg'⟩
    · exact .inr ⟨_, x, p', fun _ => hm, hg, hl, hp', rfl⟩
    · exact .inr ⟨b', y, p', id, hg', hy, hp', rfl⟩

theorem Rel.put {m : Nat} {μ : LMap} {H H' : DH} {W : World} {b o : Nat} {vs : List DV} (hr : Rel m μ H W) (hput : H.put m b o vs = some H') {us : List Value} (hv : VRs μ vs us) {p : Loc} (hp : μ b = some p) :
    (∀ (P : Program) (i off : Nat), off + i = p.base + o → (storeCells ⟨p.blk, off, none⟩ us i).run P W = .ok () (setRow W p.blk (p.base + o) us)) ∧
    Rel m μ H' (setRow W p.blk (p.base + o) us) ∧ Kept m μ H W (setRow W p.blk (p.base + o) us) ∧ Fresh m μ H W μ H' ∧ H'.length = H.length := by
  unfold DH.put at hput
  split at hput
  case h_2 => cases hput
  case h_1 cs ty hg =>
    split at hput
    case isFalse => cases hput
    case isTrue hc =>
      obtain ⟨hm, hlen, hone⟩ := hc
      have e : H' = H.set b (.cells (splice cs o vs) ty) := (Option.some.inj hput).symm
      have hul := VRs.len hv
      obtain ⟨cc, fr, h1, h2, h3, h4⟩ := hr.g.br b (.cells cs ty) p hg hp
      obtain ⟨hfz, hdis⟩ := hr.g.wr b _ p hm hg (by simp) hp
      obtain ⟨cc', rs⟩ := setRow_spec p.blk ty fr us (p.base + o) W cc h1 (by omega)
      have hones : ∀ u ∈ us, u.oneCell' = true := by
        intro u hu
        obtain ⟨i, hi, hiu⟩ := List.mem_iff_getElem.1 hu
        have hvi : vs[i]? = some vs[i] := List.getElem?_eq_getElem (by omega)
        obtain ⟨u', hu', hvr⟩ := VRs.get hv hvi
        have : u' = u := by rw [List.getElem?_eq_getElem hi] at hu'; rw [← hiu]; exact (Option.some.inj hu').symm
        subst this
        exact VR.one hvr (by rw [List.all_eq_true] at hone; exact hone _ (List.getElem_mem _))
      have hcr : CellsR μ (setRow W p.blk (p.base + o) us) p (splice cs o vs) ty := by
        refine ⟨cc', fr, rs.here, by rw [rs.csize]; exact h2, by rw [splice_len hlen]; exact h3, fun i v hi => ?_⟩
        rw [splice_get hlen] at hi
        rw [rs.cell]
        by_cases hc : o ≤ i ∧ i < o + vs.length
        · rw [if_pos hc] at hi
          rw [if_pos (by omega)]
          obtain ⟨u, hu, hvr⟩ := VRs.get hv hi
          exact ⟨u, by rw [show p.base + i - (p.base + o) = i - o from by omega]; exact hu, hvr⟩
        · rw [if_neg hc] at hi
          rw [if_neg (by omega)]
          exact h4 i v hi
      obtain ⟨r1, r2, r3⟩ := hr.set' (W' := setRow W p.blk (p.base + o) us) hm hg (by simp) hp (x' := .cells (splice cs o vs) ty) rs.other (Nat.le_of_eq rs.size.symm) hcr (fun o' ho' => by
          have := hfz o' ho'
          unfold World.frozen? at this ⊢
          simp only [rs.here]
          simp only [h1] at this
          exact this) rs.os rs.tape rs.output
      rw [← e] at r1 r3
      refine ⟨fun P i off hoff => ?_, r1, r2, r3, by rw [e]; simp⟩
      rw [run_storeCells P p.blk off ty fr us i W cc h1 (by omega) (fun o' ho1 ho2 => hfz o' (by omega)) hones, hoff]

/-! ### Frames -/

/-- The frame of the shadow, and the model's slots. -/
structure FR (μ : LMap) (F : DF) (a : Act) (nt : Nat) : Prop where
  slot : ∀ t v, F.get t = some v → VR μ v (a.tmps.getD t undef)
  size : a.tmps.size = nt
  bound : ∀ t v, F.get t = some v → t < nt

theorem FR.mono {μ μ' : LMap} {F : DF} {a : Act} {nt : Nat} (h : FR μ F a nt) (hm : ∀ b p, μ b = some p → μ' b = some p) : FR μ' F a nt :=
  ⟨fun t v hv => VR.mono hm _ _ (h.slot t v hv), h.size, h.bound⟩

theorem put_get {F : DF} {d : Option Nat} {v : DV} {t : Nat} {x : DV} (h : (F.put d v).get t = some x) : (d = some t ∧ v = x) ∨ (d ≠ some t ∧ F.get t = some x) := by
  cases d with
  | none => exact .inr ⟨by simp, h⟩
  | some k =>
    simp only [DF.put, DF.get] at h
    by_cases e : k = t
    · rw [if_pos e] at h; exact .inl ⟨by rw [e], Option.some.inj h⟩
    · rw [if_neg e] at h; exact .inr ⟨by simp [e], h⟩

theorem FR.put {μ : LMap} {F : DF} {a : Act} {nt : Nat} (h : FR μ F a nt) {d : Option Nat} {v : DV} {u : Value} (hd : ∀ t, d = some t → t < nt) (hv : VR μ v u) : FR μ (F.put d v) (a.put d u) nt := by
  have hsz : (a.put d u).tmps.size = nt := by
    cases d with
    | none => exact h.size
    | some t => simp [Act.put, h.size]
  refine ⟨fun t x hx => ?_, hsz, fun t x hx => ?_⟩
  · rcases put_get hx with ⟨rfl, rfl⟩ | ⟨hne, hx⟩
    · have : t < a.tmps.size := by rw [h.size]; exact hd t rfl
      simpa [Act.put, Array.getElem?_setIfInBounds, this] using hv
    · have h1 := h.slot t x hx
      cases d with
      | none => exact h1
      | some k =>
        have hk : k ≠ t := fun e => hne (by rw [e])
        simpa [Act.put, Array.getElem?_setIfInBounds, hk] using h1
  · rcases put_get hx with ⟨rfl, rfl⟩ | ⟨hne, hx⟩
    · exact hd t rfl
    · exact h.bound t x hx

theorem undef_VR {μ : LMap} : VR μ DV.undef Go.undef := by
  unfold DV.undef Go.undef
  simp [VR, VRs]

/-! ### Operands -/

theorem dvs1_VR {μ : LMap} {v : Value} {d : DV} (h : dvs1 v = some d) : VR μ d v := by
  unfold dvs1 at h
  split at h <;> first | (cases h; done) | (injection h with h; subst h; simp [VR])

theorem dvs1_lt {v : Value} {d : DV} {g : Nat} (h : dvs1 v = some d) : d.lt g = true := by
  unfold dvs1 at h
  split at h <;> first | (cases h; done) | (injection h with h; subst h; simp [DV.lt])

theorem dvsL_VR {μ : LMap} : ∀ {vs : List Value} {ds : List DV}, dvsL vs = some ds → VRs μ ds vs
  | [], ds, h => by simp only [dvsL] at h; injection h with h; subst h; simp [VRs]
  | v :: vs, ds, h => by
    simp only [dvsL] at h
    split at h
    case h_2 => cases h
    case h_1 d hd =>
      split at h
      case h_2 => cases h
      case h_1 l hl =>
        injection h with h; subst h
        simp only [VRs]
        exact ⟨dvs1_VR hd, dvsL_VR hl⟩

theorem dvsL_lt {g : Nat} : ∀ {vs : List Value} {ds : List DV}, dvsL vs = some ds → DV.lts g ds = true
  | [], ds, h => by simp only [dvsL] at h; injection h with h; subst h; simp [DV.lts]
  | v :: vs, ds, h => by
    simp only [dvsL] at h
    split at h
    case h_2 => cases h
    case h_1 d hd =>
      split at h
      case h_2 => cases h
      case h_1 l hl =>
        injection h with h; subst h
        simp only [DV.lts, Bool.and_eq_true]
        exact ⟨dvs1_lt hd, dvsL_lt hl⟩

theorem dvK_VR {μ : LMap} {v : Value} {d : DV} (h : dvK v = some d) : VR μ d v := by
  unfold dvK at h
  split at h
  · split at h
    case h_2 => cases h
    case h_1 l hl => injection h with h; subst h; simp only [VR]; exact ⟨_, rfl, dvsL_VR hl⟩
  · split at h
    case isFalse => cases h
    case isTrue hs => injection h with h; subst h; rename_i cs; simp only [VR]; exact ⟨cs, rfl, by simp [Array.eq_empty_of_size_eq_zero hs, VRs]⟩
  · exact dvs1_VR h

theorem dvK_lt {g : Nat} {v : Value} {d : DV} (h : dvK v = some d) : d.lt g = true := by
  unfold dvK at h
  split at h
  · split at h
    case h_2 => cases h
    case h_1 l hl => injection h with h; subst h; simp only [DV.lt]; exact dvsL_lt hl
  · split at h
    case isFalse => cases h
    case isTrue hs => injection h with h; subst h; simp [DV.lt, DV.lts]
  · exact dvs1_lt h

theorem cX_VR {μ : LMap} {F : DF} {a : Act} {nt : Nat} (hf : FR μ F a nt) {x : Operand} {d : DX} (h : cX x = some d) {v : DV} (hv : d.ev F = some v) : VR μ v (a.eval x) := by
  unfold cX at h
  split at h
  · injection h with h; subst h; exact hf.slot _ _ hv
  · split at h
    case h_2 => cases h
    case h_1 d' hd => injection h with h; subst h; simp only [DX.ev] at hv; injection hv with hv; subst hv; exact dvK_VR hd
  · injection h with h; subst h; simp only [DX.ev] at hv; injection hv with hv; subst hv; simp only [VR, Act.eval]; exact ⟨#[], #[], rfl, by simp only [VRs], by simp only [VRs]⟩
  · cases h

theorem cXs_VR {μ : LMap} {F : DF} {a : Act} {nt : Nat} (hf : FR μ F a nt) : ∀ {xs : List Operand} {ds : List DX}, cXs xs = some ds → ∀ {vs : List DV}, DX.evs F ds = some vs → VRs μ vs (xs.map a.eval)
  | [], ds, h, vs, hv => by
    simp only [cXs] at h; injection h with h; subst h
    simp only [DX.evs] at hv; injection hv with hv; subst hv
    simp [VRs]
  | x :: xs, ds, h, vs, hv => by
    simp only [cXs] at h
    split at h
    case h_2 => cases h
    case h_1 d hd =>
      split at h
      case h_2 => cases h
      case h_1 l hl =>
        injection h with h; subst h
        simp only [DX.evs] at hv
        split at hv
        case h_2 => cases hv
        case h_1 v1 hv1 =>
          split at hv
          case h_2 => cases hv
          case h_1 vs1 hvs1 =>
            injection hv with hv; subst hv
            simp only [VRs, List.map_cons]
            exact ⟨cX_VR hf hd hv1, cXs_VR hf hl hvs1⟩

end Go.Proofs.Sh

namespace Go.Proofs.Sh
open Go Go.RowKit

section
variable {P : Program} {w : World}

theorem run_typeInfo {t : Nat} {i : TypeInfo} (h : P.info? t = some i) : (typeInfo t).run P w = .ok i w := by
  unfold typeInfo; simp [h]
theorem run_underlying {t : Nat} {d : TypeDesc} (h : P.underlying t = some d) : (underlying t).run P w = .ok d w := by
  unfold underlying; simp [h]
theorem run_sizeOf {t : Nat} {i : TypeInfo} (h : P.info? t = some i) : (sizeOf t).run P w = .ok i.size w := by
  unfold sizeOf; simp [run_typeInfo h]
theorem run_zeroValue {t : Nat} {i : TypeInfo} {z : Value} (h : P.info? t = some i) (hz : i.zero = some z) : (zeroValue t).run P w = .ok z w := by
  unfold zeroValue; simp [run_typeInfo h, hz]
theorem run_isAgg {t : Nat} {b : Bool} (h : isAggT P t = some b) : (isAgg t).run P w = .ok b w := by
  unfold isAggT at h
  unfold isAgg
  split at h
  all_goals (try cases h)
  all_goals rename_i hd
  · simp [run_underlying hd]
  · simp [run_underlying hd]
  · rename_i d h1 h2
    simp only [Sem.run_bind, run_underlying hd, Result.andThen_ok]
    cases d <;> first | rfl | exact absurd rfl (h1 _) | exact absurd rfl (h2 _ _)

end

section
variable {P : Program} {m : Nat} {μ : LMap} {H : DH} {W : World} {F : DF} {a : Act} {nt : Nat}

theorem zeroOf_spec {t : Nat} {z : List DV} (h : zeroOf P t = some z) : ∃ i zv, P.info? t = some i ∧ i.zero = some zv ∧ zv.cells.size = i.size ∧ dvsL zv.cells.toList = some z := by
  unfold zeroOf at h
  split at h
  case h_2 => cases h
  case h_1 i hi =>
    split at h
    case h_2 => cases h
    case h_1 zv hz =>
      split at h
      case isFalse => cases h
      case isTrue hs => exact ⟨i, zv, hi, hz, hs, h⟩

theorem dvsL_len : ∀ {vs : List Value} {ds : List DV}, dvsL vs = some ds → ds.length = vs.length := fun h => VRs.len (dvsL_VR (μ := fun _ => none) h)

/-- a new block whose cells are given as a list -/
theorem Out.newBlk (hr : Rel m μ H W) {cs : List DV} {cc : Array Value} {ty : Nat} (hv : VRs μ cs cc.toList) :
    Out m μ H W (.ptr H.length 0) (H ++ [.cells cs ty]) (upd μ H.length ⟨W.heap.size, 0, cc.size⟩) (.pointer (some ⟨W.heap.size, 0, none⟩)) (W.alloc (.cells cc ty)) := by
  refine ⟨upd_old, hr.alloc (Alloc.alloc _ _) (by simp) (by have := VRs.len hv; simp at this; omega) (fun i v hi => by
    obtain ⟨u, hu, hvr⟩ := VRs.get hv hi
    exact ⟨u, by simpa using hu, hvr⟩), ?_, (Alloc.alloc _ _).kept, Fresh.alloc (Nat.le_refl _)⟩
  simp [VR, upd_new]

theorem op_alloc (hr : Rel m μ H W) {t : Nat} {z : List DV} (hz : zeroOf P t = some z) :
    ∃ u W' μ', (Instr.alloc t true (.tuple #[])).run P W = .ok u W' ∧ Out m μ H W (.ptr H.length 0) (H ++ [.cells z t]) μ' u W' := by
  obtain ⟨i, zv, hi, hzv, hs, hd⟩ := zeroOf_spec hz
  refine ⟨_, _, _, ?_, Out.newBlk hr (dvsL_VR hd)⟩
  unfold Instr.alloc
  simp [run_zeroValue hi hzv, newVar, newRow]

theorem op_box (hr : Rel m μ H W) {t : Nat} {v : DV} {x : Value} (hv : VR μ v x) :
    ∃ u W' μ', (Instr.box t x).run P W = .ok u W' ∧ Out m μ H W (.ptr H.length 0) (H ++ [.cells v.cells t]) μ' u W' := by
  refine ⟨_, _, _, ?_, Out.newBlk hr hv.cells⟩
  unfold Instr.box
  simp [newVar, newRow]

theorem cell_VR (hr : Rel m μ H W) {b o : Nat} {v : DV} (h : H.cell b o = some v) {p : Loc} (hp : μ b = some p) : ∃ u, W.cell? ⟨p.blk, p.base + o, none⟩ = some u ∧ VR μ v u := by
  unfold DH.cell at h
  split at h
  case h_2 => cases h
  case h_1 cs ty hg =>
    obtain ⟨cc, fr, h1, h2, h3, h4⟩ := hr.g.br b (.cells cs ty) p hg hp
    obtain ⟨u, hu, hvr⟩ := h4 o v h
    exact ⟨u, by simp [World.cell?, h1, hu], hvr⟩

theorem cellsAt_VR (hr : Rel m μ H W) {b o n : Nat} {vs : List DV} (h : H.cellsAt b o n = some vs) {p : Loc} (hp : μ b = some p) :
    ∃ us : List Value, VRs μ vs us ∧ us.length = n ∧ ∀ (j : Nat) (u : Value), us[j]? = some u → W.cell? ((⟨p.blk, p.base + o, none⟩ : Addr).add j) = some u := by
  unfold DH.cellsAt at h
  split at h
  case h_2 => cases h
  case h_1 cs ty hg =>
    split at h
    case isFalse => cases h
    case isTrue hl =>
      injection h with h
      obtain ⟨cc, fr, h1, h2, h3, h4⟩ := hr.g.br b (.cells cs ty) p hg hp
      have hlen : vs.length = n := by rw [← h]; simp; omega
      refine ⟨((cc.toList.drop (p.base + o)).take n), VRs.of_get (by simp; omega) ?_, by simp; omega, ?_⟩
      · intro i v u hv hu
        have hi : i < n := by
          have := (List.getElem?_eq_some_iff.1 hv).1; omega
        rw [← h, List.getElem?_take, if_pos hi, List.getElem?_drop] at hv
        obtain ⟨u', hu', hvr⟩ := h4 _ v hv
        rw [List.getElem?_take, if_pos hi, List.getElem?_drop] at hu
        have e : u' = u := by
          have : cc[p.base + (o + i)]? = some u := by simpa [Nat.add_assoc] using hu
          rw [hu'] at this; exact Option.some.inj this
        exact e ▸ hvr
      · intro j u hu
        have hj : j < n := by
          have := (List.getElem?_eq_some_iff.1 hu).1; simp at this; omega
        rw [List.getElem?_take, if_pos hj, List.getElem?_drop] at hu
        rw [add_eq]
        have : cc[p.base + o + j]? = some u := by simpa using hu
        simp [World.cell?, h1, this]

theorem op_load1 (hr : Rel m μ H W) {b o : Nat} {v : DV} (h : H.cell b o = some v) {t : Nat} {x : Value} (hx : VR μ (.ptr b o) x) (ha : isAggT P t = some false) :
    ∃ u, (Instr.loadAt t x).run P W = .ok u W ∧ VR μ v u := by
  simp only [VR] at hx
  obtain ⟨p, hp, rfl⟩ := hx
  obtain ⟨u, hu, hvr⟩ := cell_VR hr h hp
  refine ⟨u, ?_, hvr⟩
  unfold Instr.loadAt Instr.sureAddr loadVar
  simp [run_isAgg ha, hu]

theorem run_loadVar_agg {t : Nat} {i : TypeInfo} {ad : Addr} {us : List Value} (ha : isAggT P t = some true) (hi : P.info? t = some i) (hl : us.length = i.size)
    (hc : ∀ (j : Nat) (u : Value), us[j]? = some u → W.cell? (ad.add j) = some u) : (loadVar t ad).run P W = .ok (.agg us.toArray) W := by
  unfold loadVar
  simp only [Sem.run_bind, run_isAgg ha, Result.andThen_ok, if_true, run_sizeOf hi]
  rw [← hl, run_loadCells_list (P := P) (w := W) ad us hc]
  simp

theorem op_loada (hr : Rel m μ H W) {b o : Nat} {vs : List DV} {t : Nat} {i : TypeInfo} (hi : P.info? t = some i) (h : H.cellsAt b o i.size = some vs) {x : Value} (hx : VR μ (.ptr b o) x) (ha : isAggT P t = some true) :
    ∃ u, (Instr.loadAt t x).run P W = .ok u W ∧ VR μ (.agg vs) u := by
  simp only [VR] at hx
  obtain ⟨p, hp, rfl⟩ := hx
  obtain ⟨us, hvs, hl, hc⟩ := cellsAt_VR hr h hp
  refine ⟨.agg us.toArray, ?_, ?_⟩
  · unfold Instr.loadAt Instr.sureAddr
    simp only [Sem.run_bind, Sem.run_pure, Result.andThen_ok]
    exact run_loadVar_agg ha hi hl hc
  · simp only [VR]; exact ⟨_, rfl, by simpa using hvs⟩

theorem op_store (hr : Rel m μ H W) {b o n : Nat} {v : DV} {H' : DH} (hn : v.cells.length = n) (h : H.put m b o v.cells = some H') {t : Nat} {i : TypeInfo} (hi : P.info? t = some i) (hs : i.size = n)
    {x y : Value} (hx : VR μ (.ptr b o) x) (hy : VR μ v y) :
    ∃ W', (Instr.storeAt t x y).run P W = .ok () W' ∧ Out m μ H W DV.undef H' μ Go.undef W' := by
  simp only [VR] at hx
  obtain ⟨p, hp, rfl⟩ := hx
  obtain ⟨h1, h2, h3, h5, h4⟩ := hr.put h hy.cells hp
  refine ⟨_, ?_, ⟨fun _ _ => rfl, h2, undef_VR, h3, h5⟩⟩
  unfold Instr.storeAt Instr.sureAddr storeVar
  have hsz := hy.cellsLen
  simp only [Sem.run_bind, Sem.run_pure, Result.andThen_ok, run_sizeOf hi]
  rw [if_neg (by rw [hsz, hn, hs]; simp)]
  exact h1 P 0 (p.base + o) rfl

end
end Go.Proofs.Sh

namespace Go.Proofs.Sh
open Go Go.RowKit

section
variable {P : Program} {m : Nat} {μ : LMap} {H : DH} {W : World}

/-! ### Two operands -/

theorem eqGuard_pass {op : BinOp} {t : TypeId} {x y : Operand} {a b : Value} (h : match a, b with | .nilIface, .nilIface => False | .agg _, .agg _ => False | _, _ => True) :
    (eqGuard op t x y a b).run P W = .ok () W := by
  unfold eqGuard
  by_cases hop : op = .eql ∨ op = .neq
  · have : (!(match op with | .eql | .neq => true | _ => false)) = false := by rcases hop with rfl | rfl <;> rfl
    rcases hop with rfl | rfl <;> (cases a <;> first | rfl | (cases b <;> first | rfl | exact h.elim))
  · cases op <;> first | rfl | (exact absurd (by simp) hop)

theorem bytes_eq (a b : List UInt8) : ((⟨⟨a⟩⟩ : ByteArray).toList == (⟨⟨b⟩⟩ : ByteArray).toList) = decide (a = b) := by
  rw [ByteArray.toList_eq, ByteArray.toList_eq]
  exact Bool.beq_eq_decide_eq a b

theorem bin_run {op : BinOp} {v w r : DV} (h : bin op v w = some r) {x y : Value} (hx : VR μ v x) (hy : VR μ w y) (t : TypeId) (ox oy : Operand) :
    ∃ u, (do eqGuard op t ox oy x y; binOp op t x y : Sem Value).run P W = .ok u W ∧ VR μ r u := by
  unfold bin at h
  split at h
  case h_1 k a k' b =>
    simp only [VR] at hx hy
    subst hx hy
    have hg : (eqGuard op t ox oy (.int k a) (.int k' b)).run P W = .ok () W := eqGuard_pass trivial
    simp only [Sem.run_bind, hg, Result.andThen_ok]
    cases op <;> simp only [] at h
    case shl =>
      split at h
      case isFalse => cases h
      case isTrue hb =>
        injection h with h; subst h
        simp only [VR, exists_eq_right]
        simp [binOp, Op.shift, show ¬ b < 0 from by omega]
    case shr =>
      split at h
      case isFalse => cases h
      case isTrue hb =>
        injection h with h; subst h
        simp only [VR, exists_eq_right]
        simp [binOp, Op.shift, show ¬ b < 0 from by omega]
    all_goals
      split at h
      case isFalse => cases h
      case isTrue hk =>
        subst hk
        first
          | (cases h; done)
          | (injection h with h; subst h; simp only [VR, exists_eq_right]; simp [binOp, Op.intArith, Op.intCmp, Op.intBits, Bool.beq_eq_decide_eq, bne]; done)
          | (split at h
             case isTrue => cases h
             case isFalse hb => injection h with h; subst h; simp only [VR, exists_eq_right]; simp [binOp, Op.intDiv, hb])
  case h_2 a b =>
    simp only [VR] at hx hy
    subst hx hy
    have hg : (eqGuard op t ox oy (.string ⟨⟨a⟩⟩) (.string ⟨⟨b⟩⟩)).run P W = .ok () W := eqGuard_pass trivial
    simp only [Sem.run_bind, hg, Result.andThen_ok]
    have hT : ∀ l : List UInt8, (⟨⟨l⟩⟩ : ByteArray).toList = l := fun l => by rw [ByteArray.toList_eq]
    have hE : (a == b) = decide (a = b) := Bool.beq_eq_decide_eq a b
    split at h
    · split at h
      case isFalse => cases h
      case isTrue hl =>
        injection h with h; subst h
        refine ⟨.string ⟨⟨a ++ b⟩⟩, ?_, by simp [VR]⟩
        have hs : ¬ (((⟨⟨a⟩⟩ : ByteArray).size + (⟨⟨b⟩⟩ : ByteArray).size : Nat) : Int) > IntKind.i64.max := by
          simp [ByteArray.size, IntKind.max, IntKind.signed, IntKind.bits]; omega
        have he : (⟨⟨a⟩⟩ : ByteArray) ++ ⟨⟨b⟩⟩ = ⟨⟨a ++ b⟩⟩ := by
          apply ByteArray.ext
          simp [ByteArray.data_append]
        simp only [binOp, Op.stringOp, hs, if_false, he]; rfl
    all_goals first
      | (cases h; done)
      | (injection h with h; subst h; simp only [VR, exists_eq_right]; simp only [binOp, Op.stringOp, hT, hE]; first | rfl | (simp; done))
  case h_3 k a k' b =>
    simp only [VR] at hx hy
    subst hx hy
    have hg : (eqGuard op t ox oy (.float k a) (.float k' b)).run P W = .ok () W := eqGuard_pass trivial
    simp only [Sem.run_bind, hg, Result.andThen_ok]
    split at h
    case isFalse => cases h
    case isTrue hk =>
      subst hk
      split at h
      · injection h with h; subst h; simp only [VR, exists_eq_right]; simp [binOp, Op.floatCmp, Op.floatEq]
      · injection h with h; subst h; simp only [VR, exists_eq_right]; simp [binOp, Op.floatCmp, Op.floatEq, bne]
      · cases h
  case h_4 => cases h

end
end Go.Proofs.Sh

namespace Go.Proofs.Sh
open Go Go.RowKit

section
variable {P : Program} {m : Nat} {μ : LMap} {H : DH} {W : World}

/-! ### Equality by the type -/

theorem part_run {t : Nat} (h : isAggT P t = some false) {xs : Array Value} {off : Nat} {u : Value} (hu : xs[off]? = some u) : (part t xs off).run P W = .ok u W := by
  unfold part
  simp [run_isAgg h, hu]

def eqKindOk (P : Program) (t : Nat) : Nat → Prop
  | 0 => P.underlying t = some .bool
  | 1 => ∃ k, P.underlying t = some (.int k)
  | 2 => P.underlying t = some .string
  | _ => False

theorem eqc_run {t kd : Nat} (ht : eqKindOk P t kd) {v w : DV} {r : Bool} (h : eqc kd v w = some r) {x y : Value} (hx : VR μ v x) (hy : VR μ w y) (d : Nat) :
    (Op.equalIn (d + 1) t x y).run P W = .ok r W := by
  unfold eqc at h
  split at h
  · simp only [VR] at hx hy; subst hx hy
    injection h with h; subst h
    exact run_equalIn_bool' W d t _ _ ht
  · simp only [VR] at hx hy; subst hx hy
    split at h
    case isFalse => cases h
    case isTrue hk =>
      subst hk
      injection h with h; subst h
      obtain ⟨k', hk'⟩ := ht
      rw [run_equalIn_int W d t _ k' _ _ hk']
      simp [Bool.beq_eq_decide_eq]
  · simp only [VR] at hx hy; subst hx hy
    injection h with h; subst h
    rw [run_equalIn_string W d t _ _ ht]
    rw [bytes_eq]
  · cases h

theorem eqKind_agg {t kd : Nat} (ht : eqKindOk P t kd) : isAggT P t = some false := by
  unfold isAggT
  match kd, ht with
  | 0, h => simp only [eqKindOk] at h; simp [h]
  | 1, ⟨k, h⟩ => simp [h]
  | 2, h => simp only [eqKindOk] at h; simp [h]

theorem eqFields_run (d : Nat) : ∀ (fs : List Field) (offs : List (Nat × Nat)), eqFields P fs = some offs → ∀ {la lb : List DV} {xs ys : Array Value}, VRs μ la xs.toList → VRs μ lb ys.toList → ∀ {r : Bool}, eqcs la lb offs = some r →
    (Op.eqFields (d + 1) xs ys fs).run P W = .ok r W
  | [], offs, h, la, lb, xs, ys, _, _, r, hr => by
    simp only [eqFields] at h; injection h with h; subst h
    simp only [eqcs] at hr; injection hr with hr; subst hr
    simp [Op.eqFields]
  | f :: fs, offs, h, la, lb, xs, ys, hx, hy, r, hr => by
    simp only [eqFields] at h
    split at h
    case isTrue => cases h
    case isFalse hn =>
      split at h
      case h_1 => cases h
      case h_2 l hl =>
        have key : ∃ kd, offs = (f.offset, kd) :: l ∧ eqKindOk P f.type kd := by
          split at h
          all_goals first | (cases h; done) | (injection h with h; rename_i hu; exact ⟨_, h.symm, by first | exact hu | exact ⟨_, hu⟩⟩)
        obtain ⟨kd, rfl, hk⟩ := key
        simp only [eqcs] at hr
        split at hr
        case h_2 => cases hr
        case h_1 a b ha hb =>
          obtain ⟨u, hu, hva⟩ := VRs.get hx ha
          obtain ⟨u', hu', hvb⟩ := VRs.get hy hb
          have e1 := part_run (P := P) (W := W) (eqKind_agg hk) (xs := xs) (off := f.offset) (u := u) (by simpa using hu)
          have e2 := part_run (P := P) (W := W) (eqKind_agg hk) (xs := ys) (off := f.offset) (u := u') (by simpa using hu')
          have hn' : f.name ≠ "_" := hn
          simp only [Op.eqFields, hn', ne_eq, not_false_eq_true, if_true, Sem.run_bind, e1, e2, Result.andThen_ok]
          split at hr
          · rename_i hc
            rw [eqc_run hk hc hva hvb d]
            simp only [Result.andThen_ok, Bool.not_true, Bool.false_eq_true, if_false]
            exact eqFields_run d fs l hl hx hy hr
          · rename_i hc
            rw [eqc_run hk hc hva hvb d]
            injection hr with hr; subst hr
            simp
          · cases hr

/-- neither numbers nor strings -/
def other : Value → Value → Prop
  | .int .., _ => False
  | .float .., _ => False
  | .complex .., _ => False
  | .string .., _ => False
  | _, .int .. => False
  | _, _ => True

theorem binOp_eql {t : Nat} {x y : Value} (h : other x y) : binOp .eql t x y = (do pure (.bool (← Op.equal t x y))) := by
  cases x <;> first | exact h.elim | (cases y <;> first | exact h.elim | rfl)
theorem binOp_neq {t : Nat} {x y : Value} (h : other x y) : binOp .neq t x y = (do pure (.bool (!(← Op.equal t x y)))) := by
  cases x <;> first | exact h.elim | (cases y <;> first | exact h.elim | rfl)

def opOf (neg : Bool) : BinOp := if neg then .neq else .eql

theorem eq_of_equal {neg : Bool} {t : Nat} {x y : Value} {ox oy : Operand} {r : Bool} (hg : (eqGuard (opOf neg) t ox oy x y).run P W = .ok () W) (he : (Op.equal t x y).run P W = .ok r W)
    (h : other x y) :
    (do eqGuard (opOf neg) t ox oy x y; binOp (opOf neg) t x y : Sem Value).run P W = .ok (.bool (neg ^^ r)) W := by
  simp only [Sem.run_bind, hg, Result.andThen_ok]
  cases neg
  · simp only [opOf, Bool.false_eq_true, if_false]
    rw [binOp_eql h]; simp [he]
  · simp only [opOf, if_true]
    rw [binOp_neq h]; simp [he]

theorem equal_of {t : Nat} {x y : Value} {r : Bool} (h : ∀ d, (Op.equalIn (d + 1) t x y).run P W = .ok r W) : (Op.equal t x y).run P W = .ok r W := h 9999

theorem eqGuard_nil {op : BinOp} {t : Nat} {ox oy : Operand} (h : (∃ z, ox = .const z) ∨ (∃ z, oy = .const z)) : (eqGuard op t ox oy .nilIface .nilIface).run P W = .ok () W := by
  rcases h with ⟨z, rfl⟩ | ⟨z, rfl⟩
  · unfold eqGuard
    cases op <;> rfl
  · unfold eqGuard
    cases op <;> first | rfl | (cases ox <;> rfl)

/-- the comparisons of one cell that are no numbers and no strings -/
theorem cEq_run {neg : Bool} {t : Nat} {ox oy : Operand} {k : EqK} {a b : DX} (hc : cEq P neg t ox oy = some (.eq k neg a b)) {v w : DV} {r : Bool} (h : eqv k v w = some r) {x y : Value} (hx : VR μ v x) (hy : VR μ w y)
    (hcx : nilConst ox = true → ∃ z, ox = .const z) (hcy : nilConst oy = true → ∃ z, oy = .const z) :
    (do eqGuard (opOf neg) t ox oy x y; binOp (opOf neg) t x y : Sem Value).run P W = .ok (.bool (neg ^^ r)) W := by
  unfold cEq at hc
  split at hc
  case h_2 => cases hc
  case h_1 a' b' _ _ =>
    split at hc
    case h_1 ht =>
      injection hc with hc; injection hc with e1 _ _ _; subst e1
      cases v <;> cases w <;> simp only [eqv] at h <;> first | (cases h; done) | skip
      injection h with h; subst h
      simp only [VR] at hx hy; subst hx hy
      exact eq_of_equal (eqGuard_pass trivial) (equal_of fun d => run_equalIn_bool' W d t _ _ ht) trivial
    case h_2 e ht =>
      split at hc
      case h_2 => cases hc
      case h_1 i hi =>
        split at hc
        case isTrue => cases hc
        case isFalse hz =>
          injection hc with hc; injection hc with e1 _ _ _; subst e1
          cases v <;> cases w <;> simp only [eqv] at h <;> first | (cases h; done) | skip
          · injection h with h; subst h
            simp only [VR] at hx hy; subst hx hy
            exact eq_of_equal (eqGuard_pass trivial) (equal_of fun d => by simp [Op.equalIn, run_underlying ht]) trivial
          · injection h with h; subst h
            simp only [VR] at hx hy; subst hx; obtain ⟨p, hp, rfl⟩ := hy
            exact eq_of_equal (eqGuard_pass trivial) (equal_of fun d => by simp [Op.equalIn, run_underlying ht]) trivial
          · injection h with h; subst h
            simp only [VR] at hx hy; subst hy; obtain ⟨p, hp, rfl⟩ := hx
            exact eq_of_equal (eqGuard_pass trivial) (equal_of fun d => by simp [Op.equalIn, run_underlying ht]) trivial
          · split at h
            case isFalse => cases h
            case isTrue hb =>
              subst hb
              injection h with h; subst h
              simp only [VR] at hx hy
              obtain ⟨p, hp, rfl⟩ := hx
              obtain ⟨p', hp', rfl⟩ := hy
              rw [hp] at hp'; injection hp' with hp'; subst hp'
              refine eq_of_equal (eqGuard_pass trivial) ?_ trivial
              refine equal_of fun d => ?_
              simp only [Op.equalIn, Sem.run_bind, run_underlying ht, Result.andThen_ok, run_sizeOf hi, ne_eq, hz, not_false_eq_true, if_true]
              unfold sameAddr
              simp only [beq_self_eq_true, if_true, Sem.run_pure, Result.ok.injEq, and_true]
              rw [Bool.eq_iff_iff]
              simp
    case h_3 ht =>
      injection hc with hc; injection hc with e1 _ _ _; subst e1
      cases v <;> cases w <;> simp only [eqv] at h <;> first | (cases h; done) | skip
      all_goals (injection h with h; subst h; simp only [VR] at hx hy)
      · subst hx hy; exact eq_of_equal (eqGuard_pass trivial) (equal_of fun d => by simp [Op.equalIn, run_underlying ht]) trivial
      · subst hx; obtain ⟨p, hp, ad, c', rfl, _⟩ := hy; exact eq_of_equal (eqGuard_pass trivial) (equal_of fun d => by simp [Op.equalIn, run_underlying ht]) trivial
      · subst hy; obtain ⟨p, hp, ad, c', rfl, _⟩ := hx; exact eq_of_equal (eqGuard_pass trivial) (equal_of fun d => by simp [Op.equalIn, run_underlying ht]) trivial
    case h_4 ht =>
      injection hc with hc; injection hc with e1 _ _ _; subst e1
      cases v <;> cases w <;> simp only [eqv] at h <;> first | (cases h; done) | skip
      all_goals (injection h with h; subst h; simp only [VR] at hx hy)
      · subst hx hy; exact eq_of_equal (eqGuard_pass trivial) (equal_of fun d => by simp [Op.equalIn, run_underlying ht]) trivial
      · subst hx; obtain ⟨p, hp, rfl⟩ := hy; exact eq_of_equal (eqGuard_pass trivial) (equal_of fun d => by simp [Op.equalIn, run_underlying ht]) trivial
      · subst hy; obtain ⟨p, hp, rfl⟩ := hx; exact eq_of_equal (eqGuard_pass trivial) (equal_of fun d => by simp [Op.equalIn, run_underlying ht]) trivial
    case h_5 ht =>
      injection hc with hc; injection hc with e1 _ _ _; subst e1
      cases v <;> cases w <;> simp only [eqv] at h <;> first | (cases h; done) | skip
      all_goals (injection h with h; subst h; simp only [VR] at hx hy)
      · subst hx hy; exact eq_of_equal (eqGuard_pass trivial) (equal_of fun d => by simp [Op.equalIn, run_underlying ht]) trivial
      · subst hx; obtain ⟨fs, cs, rfl, _⟩ := hy; exact eq_of_equal (eqGuard_pass trivial) (equal_of fun d => by simp [Op.equalIn, run_underlying ht]) trivial
      · subst hy; obtain ⟨fs, cs, rfl, _⟩ := hx; exact eq_of_equal (eqGuard_pass trivial) (equal_of fun d => by simp [Op.equalIn, run_underlying ht]) trivial
    case h_6 ht =>
      split at hc
      case isFalse => cases hc
      case isTrue hn =>
        injection hc with hc; injection hc with e1 _ _ _; subst e1
        cases v <;> cases w <;> simp only [eqv] at h <;> first | (cases h; done) | skip
        all_goals (injection h with h; subst h; simp only [VR] at hx hy)
        · subst hx hy
          refine eq_of_equal (eqGuard_nil ?_) (equal_of fun d => by simp [Op.equalIn, run_underlying ht]) trivial
          rw [Bool.or_eq_true] at hn
          rcases hn with hn | hn
          · exact .inl (hcx hn)
          · exact .inr (hcy hn)
        · subst hx; obtain ⟨u, rfl, _⟩ := hy; exact eq_of_equal (eqGuard_pass trivial) (equal_of fun d => by simp [Op.equalIn, run_underlying ht]) trivial
        · subst hy; obtain ⟨u, rfl, _⟩ := hx; exact eq_of_equal (eqGuard_pass trivial) (equal_of fun d => by simp [Op.equalIn, run_underlying ht]) trivial
    case h_7 fs ht =>
      split at hc
      case isTrue => cases hc
      case isFalse =>
        split at hc
        case h_2 => cases hc
        case h_1 => injection hc with hc; cases hc
    case h_8 => cases hc

theorem nilConst_spec {x : Operand} (h : nilConst x = true) : ∃ z, x = .const z := by
  unfold nilConst at h
  split at h
  · exact ⟨_, rfl⟩
  · cases h

theorem cEqs_run {neg : Bool} {t : Nat} {ox oy : Operand} {l : List (Nat × Nat)} {a b : DX} (hc : cEq P neg t ox oy = some (.eqs neg l a b)) {la lb : List DV} {r : Bool} (h : eqcs la lb l = some r) {x y : Value} (hx : VR μ (.agg la) x) (hy : VR μ (.agg lb) y) :
    (do eqGuard (opOf neg) t ox oy x y; binOp (opOf neg) t x y : Sem Value).run P W = .ok (.bool (neg ^^ r)) W := by
  unfold cEq at hc
  split at hc
  case h_2 => cases hc
  case h_1 a' b' _ _ =>
    split at hc
    case h_7 fs ht =>
      split at hc
      case isTrue => cases hc
      case isFalse hs =>
        split at hc
        case h_2 => cases hc
        case h_1 l' hl =>
          injection hc with hc; injection hc with e1 e2 _ _; subst e2
          simp only [VR] at hx hy
          obtain ⟨xs, rfl, hxs⟩ := hx
          obtain ⟨ys, rfl, hys⟩ := hy
          simp only [Bool.or_eq_true, not_or, Bool.not_eq_true] at hs
          refine eq_of_equal (run_eqGuard_agg W _ t ox oy xs ys hs.2) ?_ trivial
          have hd : ∀ d, (Op.equalIn ((d + 1) + 1) t (.agg xs) (.agg ys)).run P W = .ok r W := fun d => by
            rw [run_equalIn_struct W (d + 1) t xs ys (by simp [Program.fieldsOf, ht]) hs.1]
            simp only [Program.fieldsOf, ht]
            exact eqFields_run d fs.toList _ hl hxs hys h
          exact hd 9998
    case h_2 => split at hc; (split at hc <;> cases hc); cases hc
    case h_6 => split at hc <;> cases hc
    all_goals cases hc

end
end Go.Proofs.Sh

namespace Go.Proofs.Sh
open Go Go.RowKit

section
variable {P : Program} {m : Nat} {μ : LMap} {H : DH} {W : World} {F : DF} {a : Act} {nt : Nat}

/-! ### Conversions -/

theorem bytesOfV_spec : ∀ {vs : List DV} {s : List UInt8}, bytesOfV vs = some s → ∃ ns : List Int, vs = ns.map (DV.int .u8) ∧ s = ns.map fun n => UInt8.ofNat n.toNat
  | [], s, h => by simp only [bytesOfV] at h; injection h with h; subst h; exact ⟨[], rfl, rfl⟩
  | v :: vs, s, h => by
    unfold bytesOfV at h
    split at h
    case h_1 => rename_i e; cases e
    case h_3 => cases h
    case h_2 n l e =>
      injection e with e1 e2
      subst e1 e2
      split at h
      case h_2 => cases h
      case h_1 r hr =>
        injection h with h; subst h
        obtain ⟨ns, rfl, rfl⟩ := bytesOfV_spec hr
        exact ⟨n :: ns, rfl, rfl⟩

theorem ints_VRs : ∀ {ns : List Int} {us : List Value}, VRs μ (ns.map (DV.int .u8)) us → us = ns.map (Value.int .u8)
  | [], us, h => by cases us with | nil => rfl | cons _ _ => simp only [List.map_nil, VRs] at h
  | n :: ns, us, h => by
    cases us with
    | nil => simp only [List.map_cons, VRs] at h
    | cons u us => simp only [List.map_cons, VRs, VR] at h; rw [h.1, ints_VRs h.2]; rfl

theorem foldl_push (l : List Int) : ∀ r : ByteArray, l.foldl (fun r n => r.push (UInt8.ofNat n.toNat)) r = ⟨r.data ++ (l.map fun n => UInt8.ofNat n.toNat).toArray⟩ := by
  induction l with
  | nil => intro r; simp
  | cons n l ih => intro r; rw [List.foldl_cons, ih]; simp [ByteArray.push]

theorem b2s_run (hr : Rel m μ H W) {v : DV} {s : List UInt8} (h : b2sD H v = some s) {x : Value} (hx : VR μ v x) : (Conv.bytesToString x).run P W = .ok (.string ⟨⟨s⟩⟩) W := by
  unfold b2sD at h
  split at h
  · simp only [VR] at hx; subst hx
    injection h with h; subst h
    rfl
  · rename_i b o n c
    split at h
    case h_2 => cases h
    case h_1 vs hvs =>
      obtain ⟨ns, rfl, rfl⟩ := bytesOfV_spec h
      simp only [VR] at hx
      obtain ⟨p, hp, ad, c', rfl, hc, hn, hor⟩ := hx
      obtain ⟨us, hus, hl, hcell⟩ := cellsAt_VR hr hvs hp
      have hus' := ints_VRs hus
      have hlc : (loadCells ad n).run P W = .ok (ns.map (Value.int .u8)).toArray W := by
        rcases hor with ⟨rfl, _⟩ | ⟨rfl, _⟩
        · rw [← hl, run_loadCells_list (P := P) (w := W) _ us hcell, hus']
        · have : ns = [] := by
            have h1 : us.length = 0 := hl
            rw [hus'] at h1
            simpa using h1
          subst this
          simp [loadCells, loadCellsFrom]
      rw [run_bytesToString W ad n c' ns hlc, foldl_push]
      simp
  · cases h

theorem byteRow (s : List UInt8) : VRs μ (s.map byteV) (s.map fun b => Value.int .u8 b.toNat) := by
  induction s with
  | nil => simp [VRs]
  | cons c s ih => simp only [List.map_cons, VRs]; exact ⟨by simp [byteV, VR], ih⟩

theorem op_s2b (hr : Rel m μ H W) {src dst e : Nat} {s : List UInt8} (hs : P.underlying src = some .string) (hd : P.underlying dst = some (.slice e)) (he : P.underlying e = some (.int .u8)) :
    ∃ u W' μ', (convert src dst (.string ⟨⟨s⟩⟩)).run P W = .ok u W' ∧ Out m μ H W (.sl H.length 0 s.length s.length 1) (H ++ [.cells (s.map byteV) e]) μ' u W' := by
  refine ⟨_, _, upd μ H.length ⟨W.heap.size, 0, (Lib.bytesCells W e ⟨⟨s⟩⟩).size⟩, Lib.run_convert_string_bytes W src dst e ⟨⟨s⟩⟩ hs hd he, ?_⟩
  have hcap := grownCap_ge W s.length 0 e
  have hsz : (Lib.bytesCells W e ⟨⟨s⟩⟩).size = grownCap W s.length 0 e := by
    simp only [Lib.bytesCells]
    have : (⟨⟨s⟩⟩ : ByteArray).size = s.length := rfl
    rw [this]
    simp; omega
  have hal : Alloc W (Lib.bytesWorld W e ⟨⟨s⟩⟩) (.cells (Lib.bytesCells W e ⟨⟨s⟩⟩) e ((Lib.bytesCells W e ⟨⟨s⟩⟩).size, (Lib.bytesCells W e ⟨⟨s⟩⟩).size + 1)) := by
    refine ⟨?_, ?_, ?_, ?_⟩
    · simp [Lib.bytesWorld, World.freeze, World.alloc, World.drew, -World.alloc_eq, -World.drew_eq]
    · simp [Lib.bytesWorld, World.freeze, World.alloc, World.drew, -World.alloc_eq, -World.drew_eq]
    · simp [Lib.bytesWorld, World.freeze, World.alloc, World.drew, -World.alloc_eq, -World.drew_eq]
    · apply Array.ext_getElem?
      intro i
      by_cases hi : i < W.heap.size
      · rw [Lib.bytesWorld_at_old W e _ i hi, Array.getElem?_push, if_neg (by omega)]
      · by_cases hi' : i = W.heap.size
        · subst hi'
          rw [Lib.bytesWorld_at_new]; simp
        · rw [Array.getElem?_eq_none (by rw [Lib.bytesWorld_size]; omega), Array.getElem?_eq_none (by simp; omega)]
  refine ⟨upd_old, hr.alloc hal (by intro o ho; simp only; omega) (by rw [hsz]; simpa using hcap) (fun i v hi => ?_), ?_, hal.kept, Fresh.alloc (Nat.le_refl _)⟩
  · obtain ⟨u, hu, hvr⟩ := VRs.get (byteRow (μ := μ) s) hi
    refine ⟨u, ?_, hvr⟩
    have hil : i < s.length := by have := (List.getElem?_eq_some_iff.1 hu).1; simpa using this
    simp only [Lib.bytesCells]
    rw [Array.getElem?_append_left (by simpa using hil)]
    simpa using hu
  · simp only [VR]
    refine ⟨_, upd_new, _, _, rfl, hcap, hcap, .inl ⟨by simp, ?_⟩⟩
    simp only [Nat.zero_add, Nat.mul_one]
    rw [hsz]; exact Nat.le_refl _

/-! ### Slices of strings and of slices -/

/-- a bound, as the model reads it -/
theorem bnd_run (hf : FR μ F a nt) {lo : Option Operand} {l : Option DX} (hl : cXo lo = some l) {dflt top n : Nat} (h : bnd F dflt top l = some n) (code : BoundsCode) :
    (match lo.map a.eval with
      | some v => ((Instr.sliceBound v top code).run P W = .ok n W)
      | none => n = dflt) ∧ (lo = none ↔ l = none) ∧ (l ≠ none → n ≤ top) := by
  unfold cXo at hl
  split at hl
  · injection hl with hl; subst hl
    simp only [bnd] at h; injection h with h
    exact ⟨by simp [h], by simp, by simp⟩
  · rename_i x
    split at hl
    case h_2 => cases hl
    case h_1 d hd =>
      injection hl with hl; subst hl
      simp only [bnd] at h
      split at h
      case h_2 => cases h
      case h_1 k i hv =>
        split at h
        case isFalse => cases h
        case isTrue hi =>
          injection h with h; subst h
          have hvr := cX_VR hf hd hv
          simp only [VR] at hvr
          refine ⟨?_, by simp, fun _ => by omega⟩
          simp only [Option.map_some, hvr]
          simp [Instr.sliceBound, asIntOf, hi]

theorem extract_str (s : List UInt8) (l h : Nat) : (⟨⟨s⟩⟩ : ByteArray).extract l h = ⟨⟨(s.drop l).take (h - l)⟩⟩ := by
  rw [Lib.extract_eq]

theorem bounds_run (hf : FR μ F a nt) {lo hi mx : Option Operand} {l h x : Option DX} (hl : cXo lo = some l) (hh : cXo hi = some h) (hx : cXo mx = some x) {isS : Bool} {len cap' kx kh kl c : Nat}
    (hc : c ≤ cap') (hmh : x.isSome = true → h.isSome = true) (h1 : bnd F c c x = some kx) (h2 : bnd F len kx h = some kh) (h3 : bnd F 0 kh l = some kl) :
    (Instr.sliceBounds isS len cap' (lo.map a.eval) (hi.map a.eval) (mx.map a.eval)).run P W = .ok (kl, kh, if x.isSome then kx else cap') W ∧ kl ≤ kh ∧ kx ≤ c ∧ (h.isSome = true → kh ≤ kx) ∧ (h.isSome = false → kh = len) := by
  have widen : ∀ {y : Option Operand} {z : Option DX} (_ : cXo y = some z) {d t t' n : Nat}, bnd F d t z = some n → t ≤ t' → ∀ code, (match y.map a.eval with | some v => ((Instr.sliceBound v t' code).run P W = .ok n W) | none => n = d) := by
    intro y z hy d t t' n hb htt code
    have : bnd F d t' z = some n := by
      unfold bnd at hb ⊢
      split at hb
      · exact hb
      · split at hb
        case h_2 => cases hb
        case h_1 k i hv =>
          split at hb
          case isFalse => cases hb
          case isTrue hi => rw [if_pos ⟨hi.1, by omega⟩]; exact hb
    exact (bnd_run hf hy this code).1
  obtain ⟨_, hl2, hl3⟩ := bnd_run (P := P) (W := W) hf hl h3 .sliceB
  obtain ⟨_, hh2, hh3⟩ := bnd_run (P := P) (W := W) hf hh h2 .sliceB
  obtain ⟨_, hx2, hx3⟩ := bnd_run (P := P) (W := W) hf hx h1 .sliceB
  have hkl : kl ≤ kh := by
    cases l with
    | none => simp only [bnd] at h3; injection h3 with h3; omega
    | some _ => exact hl3 (by simp)
  have hkx : kx ≤ c := by
    cases x with
    | none => simp only [bnd] at h1; injection h1 with h1; omega
    | some _ => exact hx3 (by simp)
  refine ⟨?_, hkl, hkx, ?_, ?_⟩
  · unfold Instr.sliceBounds
    cases mx with
    | none =>
      have ex : x = none := hx2.1 rfl
      subst ex
      have e1 : kx = c := by simp [bnd] at h1; omega
      subst e1
      cases hi with
      | none =>
        have eh : h = none := hh2.1 rfl
        subst eh
        have e2 : kh = len := by simp [bnd] at h2; omega
        subst e2
        have hb := widen hl h3 (Nat.le_refl _) .sliceB
        cases lo with
        | none => simp only [Option.map_none] at hb; subst hb; simp
        | some y => simp only [Option.map_some] at hb; simp [hb]
      | some y =>
        have hb2 := fun code => widen hh h2 hc code
        simp only [Option.map_some] at hb2
        have hb := widen hl h3 (Nat.le_refl _) .sliceB
        cases lo with
        | none => simp only [Option.map_none] at hb; subst hb; simp [hb2]
        | some y => simp only [Option.map_some] at hb; simp [hb2, hb]
    | some z =>
      have ex : x ≠ none := fun e => by have := hx2.2 e; cases this
      have hxs : x.isSome = true := by cases x with | none => exact absurd rfl ex | some _ => rfl
      have hb1 := fun code => widen hx h1 hc code
      simp only [Option.map_some] at hb1
      have hhs := hmh hxs
      cases hi with
      | none => have := hh2.1 rfl; subst this; simp at hhs
      | some y =>
        have hb2 := fun code => widen hh h2 (Nat.le_refl _) code
        simp only [Option.map_some] at hb2
        have hb := widen hl h3 (Nat.le_refl _) .slice3C
        cases lo with
        | none => simp only [Option.map_none] at hb; subst hb; simp [hb1, hb2, hxs]
        | some y => simp only [Option.map_some] at hb; simp [hb1, hb2, hb, hxs]
  · intro hs
    cases h with
    | none => simp at hs
    | some _ => exact hh3 (by simp)
  · intro hs
    cases h with
    | none => simp only [bnd] at h2; injection h2 with h2; exact h2.symm
    | some _ => simp at hs

end
end Go.Proofs.Sh

namespace Go.Proofs.Sh
open Go Go.RowKit

section
variable {P : Program} {m : Nat} {μ : LMap} {H : DH} {W : World} {F : DF} {a : Act} {nt : Nat}

theorem op_ssl (hf : FR μ F a nt) {t : Nat} (ht : P.underlying t = some .string) {lo hi : Option Operand} {l h : Option DX} (hl : cXo lo = some l) (hh : cXo hi = some h) {s : List UInt8} {kh kl : Nat}
    (h2 : bnd F s.length s.length h = some kh) (h3 : bnd F 0 kh l = some kl) {x : Value} (hx : VR μ (.str s) x) :
    (Instr.sliceAt t x (lo.map a.eval) (hi.map a.eval) none).run P W = .ok (.string ⟨⟨(s.drop kl).take (kh - kl)⟩⟩) W := by
  simp only [VR] at hx; subst hx
  obtain ⟨hb, hle, _, _, _⟩ := bounds_run (P := P) (W := W) (isS := false) (mx := none) (x := none) (c := s.length) (cap' := s.length) (len := s.length) (kx := s.length) hf hl hh rfl (Nat.le_refl _) (by simp) (by simp [bnd]) h2 h3
  have hsz : (⟨⟨s⟩⟩ : ByteArray).size = s.length := rfl
  unfold Instr.sliceAt
  simp only [Sem.run_bind, run_underlying ht, Result.andThen_ok]
  unfold Instr.slice
  simp only [Sem.run_bind, run_underlying ht, Result.andThen_ok, hsz]
  simp only [Option.map_none] at hb
  simp [hb, extract_str]

theorem op_sls (hf : FR μ F a nt) {t e : Nat} {i : TypeInfo} (ht : P.underlying t = some (.slice e)) (hi' : P.info? e = some i) {lo hi mx : Option Operand} {l h x : Option DX} (hl : cXo lo = some l) (hh : cXo hi = some h) (hx : cXo mx = some x)
    (hmh : x.isSome = true → h.isSome = true) {b o n c kx kh kl : Nat} (h1 : bnd F c c x = some kx) (h2 : bnd F n kx h = some kh) (h3 : bnd F 0 kh l = some kl) (hnc : h.isSome = true ∨ n ≤ kx) {v : Value} (hv : VR μ (.sl b o n c i.size) v) :
    ∃ u, (Instr.sliceAt t v (lo.map a.eval) (hi.map a.eval) (mx.map a.eval)).run P W = .ok u W ∧ VR μ (.sl b (o + kl * i.size) (kh - kl) (kx - kl) i.size) u := by
  simp only [VR] at hv
  obtain ⟨p, hp, ad, c', rfl, hc, hn, hor⟩ := hv
  obtain ⟨hb, hle, hkx, hk1, hk2⟩ := bounds_run (P := P) (W := W) (isS := true) hf hl hh hx hc hmh h1 h2 h3
  have hkh : kh ≤ kx := by
    rcases hnc with hs | hs
    · exact hk1 hs
    · cases hs' : h.isSome with
      | true => exact hk1 hs'
      | false => rw [hk2 hs']; exact hs
  refine ⟨.slice (if (if x.isSome then kx else c') = kl then some ad else some (ad.add (kl * i.size))) (kh - kl) ((if x.isSome then kx else c') - kl), ?_, ?_⟩
  · unfold Instr.sliceAt
    simp only [Sem.run_bind, run_underlying ht, Result.andThen_ok]
    unfold Instr.slice
    simp only [Sem.run_bind, run_underlying ht, Result.andThen_ok, hb, run_sizeOf hi']
    simp
  · simp only [VR]
    refine ⟨p, hp, ?_⟩
    by_cases e : (if x.isSome then kx else c') = kl
    · refine ⟨ad, _, by rw [if_pos e], ?_, ?_, .inr ⟨?_, ?_⟩⟩
      · split <;> omega
      · split <;> omega
      · have : kx ≤ kl := by
          by_cases hs : x.isSome = true
          · rw [if_pos hs] at e; omega
          · rw [if_neg hs] at e; omega
        omega
      · rw [e]; omega
    · refine ⟨_, _, by rw [if_neg e], ?_, ?_, ?_⟩
      · split <;> omega
      · split <;> omega
      · have hkl : kl ≤ (if x.isSome then kx else c') := by split <;> omega
        rcases hor with ⟨rfl, hroom⟩ | ⟨h0, hc0⟩
        · refine .inl ⟨by rw [add_eq]; simp [Nat.add_assoc], ?_⟩
          have : (if x.isSome then kx else c') ≤ c' := by split <;> omega
          have h2 : kl * i.size + ((if x.isSome then kx else c') - kl) * i.size ≤ c' * i.size := by
            rw [← Nat.add_mul]; exact Nat.mul_le_mul_right _ (by omega)
          omega
        · exfalso
          apply e
          have : (if x.isSome then kx else c') = 0 := by split <;> omega
          omega

theorem op_sls_nil (hf : FR μ F a nt) {t e : Nat} {i : TypeInfo} (ht : P.underlying t = some (.slice e)) (hi' : P.info? e = some i) {lo hi mx : Option Operand} {l h x : Option DX} (hl : cXo lo = some l) (hh : cXo hi = some h) (hx : cXo mx = some x)
    (hmh : x.isSome = true → h.isSome = true) {kx kh kl : Nat} (h1 : bnd F 0 0 x = some kx) (h2 : bnd F 0 0 h = some kh) (h3 : bnd F 0 0 l = some kl) :
    (Instr.sliceAt t (.slice none 0 0) (lo.map a.eval) (hi.map a.eval) (mx.map a.eval)).run P W = .ok (.slice none 0 0) W := by
  have e1 : kx = 0 := by have := (bnd_run (P := P) (W := W) hf hx h1 .sliceB).2.2; cases x with | none => simp [bnd] at h1; omega | some _ => have := this (by simp); omega
  have e2 : kh = 0 := by have := (bnd_run (P := P) (W := W) hf hh h2 .sliceB).2.2; cases h with | none => simp [bnd] at h2; omega | some _ => have := this (by simp); omega
  have e3 : kl = 0 := by have := (bnd_run (P := P) (W := W) hf hl h3 .sliceB).2.2; cases l with | none => simp [bnd] at h3; omega | some _ => have := this (by simp); omega
  subst e1 e2 e3
  obtain ⟨hb, _, _, _, _⟩ := bounds_run (P := P) (W := W) (isS := true) (cap' := 0) (len := 0) (c := 0) hf hl hh hx (Nat.le_refl _) hmh h1 h2 h3
  unfold Instr.sliceAt
  simp only [Sem.run_bind, run_underlying ht, Result.andThen_ok]
  unfold Instr.slice
  simp only [Sem.run_bind, run_underlying ht, Result.andThen_ok, hb, run_sizeOf hi']
  simp

theorem op_asl (hr : Rel m μ H W) (hf : FR μ F a nt) {t n e : Nat} {i : TypeInfo} (ht : P.underlying t = some (.array n e)) (hi' : P.info? e = some i) {lo hi : Option Operand} {l h : Option DX} (hl : cXo lo = some l) (hh : cXo hi = some h)
    {b o kh kl : Nat} (h2 : bnd F n n h = some kh) (h3 : bnd F 0 kh l = some kl) {vs : List DV} (hcs : H.cellsAt b o (n * i.size) = some vs) {v : Value} (hv : VR μ (.ptr b o) v) :
    ∃ u, (Instr.sliceAt t v (lo.map a.eval) (hi.map a.eval) none).run P W = .ok u W ∧ VR μ (.sl b (o + kl * i.size) (kh - kl) (n - kl) i.size) u := by
  simp only [VR] at hv
  obtain ⟨p, hp, rfl⟩ := hv
  obtain ⟨hb, hle, hkx, hk1, hk2⟩ := bounds_run (P := P) (W := W) (isS := false) (mx := none) (x := none) (c := n) (cap' := n) (len := n) (kx := n) hf hl hh rfl (Nat.le_refl _) (by simp) (by simp [bnd]) h2 h3
  have hkh : kh ≤ n := by
    cases hs' : h.isSome with
    | true => exact hk1 hs'
    | false => rw [hk2 hs']; exact Nat.le_refl _
  have hroom : p.base + o + n * i.size ≤ p.room := by
    unfold DH.cellsAt at hcs
    split at hcs
    case h_2 => cases hcs
    case h_1 cs ty hg =>
      split at hcs
      case isFalse => cases hcs
      case isTrue hlen =>
        obtain ⟨cc, fr, _, _, h3, _⟩ := hr.g.br b (.cells cs ty) p hg hp
        omega
  simp only [Option.map_none] at hb
  refine ⟨.slice (some (if n = kl then ⟨p.blk, p.base + o, none⟩ else (⟨p.blk, p.base + o, none⟩ : Addr).add (kl * i.size))) (kh - kl) (n - kl), ?_, ?_⟩
  · unfold Instr.sliceAt
    simp only [Sem.run_bind, run_underlying ht, Result.andThen_ok]
    unfold Instr.sureAddr
    simp only [Sem.run_pure, Result.andThen_ok, hb, run_sizeOf hi']
    simp
  · simp only [VR]
    refine ⟨p, hp, _, _, rfl, Nat.le_refl _, by omega, ?_⟩
    by_cases e : n = kl
    · exact .inr ⟨by omega, by omega⟩
    · rw [if_neg e]
      refine .inl ⟨by rw [add_eq]; simp [Nat.add_assoc], ?_⟩
      have h2 : kl * i.size + (n - kl) * i.size ≤ n * i.size := by
        rw [← Nat.add_mul]; exact Nat.mul_le_mul_right _ (by omega)
      omega

theorem op_fld {t f : Nat} {fs : Array Field} {fl : Field} {i : TypeInfo} (ht : P.underlying t = some (.struct fs)) (hfl : fs[f]? = some fl) (hi : P.info? fl.type = some i) (hz : i.size ≠ 0) {b o : Nat} {x : Value} (hx : VR μ (.ptr b o) x) :
    ∃ u, (Instr.fieldAt t x f).run P W = .ok u W ∧ VR μ (.ptr b (o + fl.offset)) u := by
  simp only [VR] at hx
  obtain ⟨p, hp, rfl⟩ := hx
  refine ⟨.pointer (some ⟨p.blk, p.base + (o + fl.offset), none⟩), ?_, by simp only [VR]; exact ⟨p, hp, rfl⟩⟩
  unfold Instr.fieldAt
  simp only [Sem.run_bind, run_underlying ht, Result.andThen_ok, hfl, Sem.run_pure]
  unfold Instr.sureAddr fieldPlace
  simp [run_sizeOf hi, hz, add_eq, Nat.add_assoc]

theorem op_ixa {t e : Nat} {i : TypeInfo} (ht : P.underlying t = some (.slice e)) (hi : P.info? e = some i) {b o n c : Nat} {k : IntKind} {j : Int} (h0 : 0 ≤ j) (h1 : j < n) {x y : Value} (hx : VR μ (.sl b o n c i.size) x) (hy : VR μ (.int k j) y) :
    ∃ u, (Instr.indexAt t x y).run P W = .ok u W ∧ VR μ (.ptr b (o + j.toNat * i.size)) u := by
  simp only [VR] at hx hy
  subst hy
  obtain ⟨p, hp, ad, c', rfl, hc, hn, hor⟩ := hx
  rcases hor with ⟨rfl, _⟩ | ⟨h, _⟩
  · refine ⟨.pointer (some ⟨p.blk, p.base + (o + j.toNat * i.size), none⟩), ?_, by simp only [VR]; exact ⟨p, hp, rfl⟩⟩
    unfold Instr.indexAt
    simp [asIntOf, run_underlying ht, h0, h1, run_sizeOf hi, add_eq, Nat.add_assoc]
  · omega

theorem op_ixp {t e n : Nat} {i : TypeInfo} (ht : P.underlying t = some (.array n e)) (hi : P.info? e = some i) {b o : Nat} {k : IntKind} {j : Int} (h0 : 0 ≤ j) (h1 : j < n) {x y : Value} (hx : VR μ (.ptr b o) x) (hy : VR μ (.int k j) y) :
    ∃ u, (Instr.indexAt t x y).run P W = .ok u W ∧ VR μ (.ptr b (o + j.toNat * i.size)) u := by
  simp only [VR] at hx hy
  subst hy
  obtain ⟨p, hp, rfl⟩ := hx
  refine ⟨.pointer (some ⟨p.blk, p.base + (o + j.toNat * i.size), none⟩), ?_, by simp only [VR]; exact ⟨p, hp, rfl⟩⟩
  unfold Instr.indexAt Instr.sureAddr
  simp [asIntOf, run_underlying ht, h0, h1, run_sizeOf hi, add_eq, Nat.add_assoc]

theorem op_ixs {t : Nat} (ht : P.underlying t = some .string) {s : List UInt8} {k : IntKind} {j : Int} {c : UInt8} (h0 : 0 ≤ j) (hc : (s[j.toNat]? : Option UInt8) = some c) {x y : Value} (hx : VR μ (.str s) x) (hy : VR μ (.int k j) y) :
    (Instr.index t x y).run P W = .ok (.int .u8 c.toNat) W := by
  simp only [VR] at hx hy
  subst hx hy
  have hg : (⟨⟨s⟩⟩ : ByteArray)[j.toNat]? = some c := by
    obtain ⟨hlt, he⟩ := List.getElem?_eq_some_iff.1 hc
    have hlt' : j.toNat < (⟨⟨s⟩⟩ : ByteArray).size := hlt
    rw [getElem?_pos (⟨⟨s⟩⟩ : ByteArray) j.toNat hlt']
    exact congrArg some he
  unfold Instr.index
  simp [asIntOf, run_underlying ht, h0, hg]

theorem op_len_str {t : Nat} (ht : P.underlying t = some .string) {ty : Nat} {ts : Array Nat} (hts : ts[0]? = some t) {s : List UInt8} {x : Value} (hx : VR μ (.str s) x) :
    (Builtin.len_ ts ty #[x]).run P W = .ok (.int .i64 s.length) W := by
  simp only [VR] at hx; subst hx
  unfold Builtin.len_
  simp [hts, run_underlying ht, goInt]
  rfl

theorem op_len_nil {t e : Nat} (ht : P.underlying t = some (.slice e)) {ty : Nat} {ts : Array Nat} (hts : ts[0]? = some t) {x : Value} (hx : VR μ .nils x) :
    (Builtin.len_ ts ty #[x]).run P W = .ok (.int .i64 0) W := by
  simp only [VR] at hx; subst hx
  unfold Builtin.len_
  simp [hts, run_underlying ht, goInt]

theorem op_len_sl {t e : Nat} (ht : P.underlying t = some (.slice e)) {ty : Nat} {ts : Array Nat} (hts : ts[0]? = some t) {b o n c e' : Nat} {x : Value} (hx : VR μ (.sl b o n c e') x) :
    (Builtin.len_ ts ty #[x]).run P W = .ok (.int .i64 n) W := by
  simp only [VR] at hx
  obtain ⟨p, hp, ad, c', rfl, _⟩ := hx
  unfold Builtin.len_
  simp [hts, run_underlying ht, goInt]

end
end Go.Proofs.Sh

namespace Go.Proofs.Sh
open Go Go.RowKit

section
variable {P : Program} {m : Nat} {μ : LMap} {H : DH} {W : World} {F : DF} {a : Act} {nt : Nat}

/-! ### What is appended or copied -/

theorem srcLen_run {y : DV} {n : Nat} (h : srcLen y = some n) {v : Value} (hv : VR μ y v) : (Builtin.lenOf v).run P W = .ok n W := by
  unfold srcLen at h
  split at h
  · injection h with h; subst h; simp only [VR] at hv; subst hv; rfl
  · injection h with h; subst h; simp only [VR] at hv; obtain ⟨p, hp, ad, c', rfl, _⟩ := hv; rfl
  · injection h with h; subst h; simp only [VR] at hv; subst hv; rfl
  · cases h

theorem srcCells_run (hr : Rel m μ H W) {y : DV} {e n k : Nat} {vs : List DV} (h : srcCells H e n y = some vs) (hk : srcLen y = some k) (hn : n ≤ k) {v : Value} (hv : VR μ y v) :
    ∃ us : Array Value, (Builtin.firstCells e n v).run P W = .ok us W ∧ VRs μ vs us.toList := by
  unfold srcCells at h
  split at h
  · injection h with h; subst h
    simp only [VR] at hv; subst hv
    exact ⟨#[], rfl, by simp [VRs]⟩
  · rename_i b o n' c e'
    split at h
    case isFalse => cases h
    case isTrue he =>
      subst he
      simp only [VR] at hv
      obtain ⟨p, hp, ad, c', rfl, hc, hn', hor⟩ := hv
      obtain ⟨us, hus, hl, hcell⟩ := cellsAt_VR hr h hp
      refine ⟨us.toArray, ?_, by simpa using hus⟩
      unfold Builtin.firstCells
      rcases hor with ⟨rfl, _⟩ | ⟨h0, _⟩
      · rw [← hl, run_loadCells_list (P := P) (w := W) _ us hcell]
      · simp only [srcLen] at hk; injection hk with hk
        have : n = 0 := by omega
        subst this
        have : us = [] := by cases us with | nil => rfl | cons _ _ => simp at hl
        subst this
        simp [loadCells, loadCellsFrom]
  · rename_i s
    split at h
    case isFalse => cases h
    case isTrue he =>
      injection h with h; subst h
      simp only [VR] at hv; subst hv
      refine ⟨((⟨⟨s⟩⟩ : ByteArray).extract 0 n).data.map fun b => .int .u8 b.toNat, rfl, ?_⟩
      rw [extract_str]
      simpa using byteRow (μ := μ) (s.take n)
  · cases h

theorem Rel.drew (hr : Rel m μ H W) : Rel m μ H W.drew := ⟨⟨fun b x p h1 h2 => (hr.g.br b x p h1 h2).mono (fun _ _ h => h) rfl, hr.g.wr, hr.g.bd⟩, hr.dom⟩

theorem growBy_le (need : Nat) : ∀ (r c : Nat), c ≤ 2 * need + 192 → Builtin.growBy need r c ≤ 2 * need + 192
  | 0, c, h => h
  | r + 1, c, h => by
    unfold Builtin.growBy
    split
    · exact h
    · exact growBy_le need r _ (by omega)

theorem nextslicecap_le (need cap : Nat) (h : cap < need) : Builtin.nextslicecap need cap ≤ 2 * need + 192 := by
  unfold Builtin.nextslicecap
  split
  · omega
  · split
    · omega
    · exact growBy_le need 4 cap (by omega)

theorem argIsRow_zeros {u : Nat} (h : argIsRow P u = true) : (∃ e, P.underlying u = some (.slice e)) ∨ P.underlying u = some .string := by
  unfold argIsRow at h
  split at h
  · exact .inl ⟨_, by assumption⟩
  · exact .inr (by assumption)
  · cases h

structure AppTy (P : Program) (ts : Array Nat) (e : Nat) (i : TypeInfo) : Prop where
  t : ∃ t, ts[0]? = some t ∧ P.underlying t = some (.slice e)
  u : ∃ u, ts[1]? = some u ∧ argIsRow P u = true
  inf : P.info? e = some i
  b1 : 0 < i.bytes
  b2 : i.bytes ≤ 1048576
  z : ∃ z, i.zero = some z

theorem app_fit {ts : Array Nat} {e ty : Nat} {i : TypeInfo} (hty : AppTy P ts e i) {base : Option Addr} {k cap n : Nat} {y : Value} {us : Array Value} (hn : (Builtin.lenOf y).run P W = .ok n W) (hfit : k + n ≤ cap)
    (hus : (Builtin.firstCells i.size n y).run P W = .ok us W) :
    (Builtin.append_ ts ty #[.slice base k cap, y]).run P W = match base with
      | none => .ok (.slice none (k + n) cap) W
      | some ad => ((storeCells (ad.add (k * i.size)) us.toList).run P W).andThen fun _ w' => .ok (.slice (some ad) (k + n) cap) w' := by
  obtain ⟨t, ht0, ht⟩ := hty.t
  obtain ⟨u, hu0, hu⟩ := hty.u
  have hd := argIsRow_zeros hu
  unfold Builtin.append_
  rcases hd with ⟨e', hd⟩ | hd <;> cases base <;> simp [ht0, hu0, run_underlying ht, run_underlying hd, run_sizeOf hty.inf, hn, hfit, hus]

theorem app_grow {ts : Array Nat} {e ty : Nat} {i : TypeInfo} (hty : AppTy P ts e i) {base : Option Addr} {k cap n : Nat} {y : Value} {us os : Array Value} (hn : (Builtin.lenOf y).run P W = .ok n W) (hfit : cap < k + n) (hb : (k + n) * i.bytes ≤ 70368744177664)
    (hos : (Builtin.firstCells i.size k (.slice base k cap)).run P W.drew = .ok os W.drew) (hus : (Builtin.firstCells i.size n y).run P W.drew = .ok us W.drew) :
    ∃ z, i.zero = some z ∧ (Builtin.append_ ts ty #[.slice base k cap, y]).run P W = .ok (.slice (some ⟨W.heap.size, 0, none⟩) (k + n) (grownCap W (k + n) cap e))
      (W.drew.alloc (.cells (os ++ us ++ Builtin.zeroCells z.cells (grownCap W (k + n) cap e - (k + n))) e)) := by
  obtain ⟨t, ht0, ht⟩ := hty.t
  obtain ⟨u, hu0, hu⟩ := hty.u
  have hd := argIsRow_zeros hu
  obtain ⟨z, hz⟩ := hty.z
  refine ⟨z, hz, ?_⟩
  have h1 := nextslicecap_le (k + n) cap hfit
  have hb1 := hty.b1
  have hb2 := hty.b2
  have hkn : k + n ≤ 70368744177664 := Nat.le_trans (Nat.le_mul_of_pos_right _ hb1) hb
  have hov : ¬ (Builtin.nextslicecap (k + n) cap * i.bytes > 2 ^ 48) := by
    have h2 : Builtin.nextslicecap (k + n) cap * i.bytes ≤ (2 * (k + n) + 192) * i.bytes := Nat.mul_le_mul_right _ h1
    have h3 : (2 * (k + n) + 192) * i.bytes = 2 * ((k + n) * i.bytes) + 192 * i.bytes := by rw [Nat.add_mul, Nat.mul_assoc]
    have : (2:Nat) ^ 48 = 281474976710656 := by decide
    omega
  have hnf : ¬ k + n ≤ cap := by omega
  unfold Builtin.append_
  have hfor : (Question.appendCap (k + n) cap e).forced = false := rfl
  rcases hd with ⟨e', hd⟩ | hd <;> simp [ht0, hu0, run_underlying ht, run_underlying hd, run_sizeOf hty.inf, run_typeInfo hty.inf, hn, hnf, hov, hfor, hos, hus, run_zeroValue hty.inf hz, newRow, grownCap] <;> (intro hbig; omega)


theorem Out.appNew (hr : Rel m μ H W) {src : List DV} {us : Array Value} {e n ty : Nat} {zc : Array Value} (hv : VRs μ src us.toList) (cap : Nat) (hcap : n ≤ cap) (hz : zc.size = (cap - n) * e) (hsrc : us.size = n * e) :
    Out m μ H W (.sl H.length 0 n n e) (H ++ [.cells src ty]) (upd μ H.length ⟨W.heap.size, 0, (us ++ zc).size⟩) (.slice (some ⟨W.heap.size, 0, none⟩) n cap) (W.drew.alloc (.cells (us ++ zc) ty)) := by
  have hal : Alloc W (W.drew.alloc (.cells (us ++ zc) ty)) (.cells (us ++ zc) ty) := ⟨rfl, rfl, rfl, rfl⟩
  refine ⟨upd_old, hr.alloc hal (by simp) (by have := VRs.len hv; simp at this ⊢; omega) (fun i v hi => ?_), ?_, hal.kept, Fresh.alloc (Nat.le_refl _)⟩
  · obtain ⟨u, hu, hvr⟩ := VRs.get hv hi
    refine ⟨u, ?_, hvr⟩
    have hil : i < us.size := by have := (List.getElem?_eq_some_iff.1 hu).1; simpa using this
    rw [Array.getElem?_append_left hil]
    simpa using hu
  · simp only [VR]
    refine ⟨_, upd_new, _, _, rfl, hcap, hcap, .inl ⟨by simp, ?_⟩⟩
    simp only [Nat.zero_add]
    rw [Array.size_append, hz, hsrc, ← Nat.add_mul]
    exact Nat.le_of_eq (by congr 1; omega)

/-- A slice is appended to, in place or in a new row: the old block is gone. -/
theorem Rel.kill (hr : Rel m μ H W) (b : Nat) : Rel m μ (H.set b .gone) W := by
  refine ⟨⟨?_, ?_, hr.g.bd⟩, fun b' hb' => hr.dom b' (by simpa using hb')⟩
  · intro b' x p hg hp
    rcases set_get hg with ⟨rfl, e, _⟩ | ⟨_, hg⟩
    · subst e; trivial
    · exact hr.g.br b' x p hg hp
  · intro b' x p hm hg hl hp
    rcases set_get hg with ⟨rfl, e, _⟩ | ⟨_, hg⟩
    · exact absurd e.symm hl
    · obtain ⟨h2, h3⟩ := hr.g.wr b' x p hm hg hl hp
      refine ⟨h2, fun b2 x2 p2 hne hg2 hl2 hp2 => ?_⟩
      rcases set_get hg2 with ⟨rfl, e, _⟩ | ⟨_, hg2⟩
      · exact absurd e.symm hl2
      · exact h3 b2 x2 p2 hne hg2 hl2 hp2

theorem Kept.kill {W' : World} {b : Nat} (h : Kept m μ (H.set b .gone) W W') : Kept m μ H W W' :=
  ⟨h.os, h.tape, h.output, h.size, fun k hk hno => h.block k hk fun b' x p hm hg hl hp => by
    rcases set_get hg with ⟨rfl, e, _⟩ | ⟨_, hg⟩
    · exact absurd e.symm hl
    · exact hno b' x p hm hg hl hp⟩

theorem Fresh.kill {W : World} {b : Nat} {μ' : LMap} {H' : DH} (h : Fresh m μ (H.set b .gone) W μ' H') : Fresh m μ H W μ' H' := by
  intro b' x p hx hl hp
  rcases h b' x p hx hl hp with h | ⟨b0, x0, p0, g1, g2, g3, g4, g5⟩
  · exact .inl h
  · rcases set_get g2 with ⟨rfl, e, _⟩ | ⟨_, g2⟩
    · exact absurd e.symm g3
    · exact .inr ⟨b0, x0, p0, g1, g2, g3, g4, g5⟩

end
end Go.Proofs.Sh

namespace Go.Proofs.Sh
open Go Go.RowKit

section
variable {P : Program} {m : Nat} {μ : LMap} {H : DH} {W : World} {F : DF} {a : Act} {nt : Nat}

theorem VRs.ones {vs : List DV} {us : List Value} (hv : VRs μ vs us) (hone : vs.all DV.one = true) : ∀ u ∈ us, u.oneCell' = true := by
  intro u hu
  obtain ⟨i, hi, hiu⟩ := List.mem_iff_getElem.1 hu
  have hul := VRs.len hv
  have hvi : vs[i]? = some vs[i] := List.getElem?_eq_getElem (by omega)
  obtain ⟨u', hu', hvr⟩ := VRs.get hv hvi
  have : u' = u := by rw [List.getElem?_eq_getElem hi] at hu'; rw [← hiu]; exact (Option.some.inj hu').symm
  subst this
  exact VR.one hvr (by rw [List.all_eq_true] at hone; exact hone _ (List.getElem_mem _))

theorem Rel.inplace (hr : Rel m μ H W) {b o : Nat} {cs vs : List DV} {ty : Nat} {us : List Value} {p : Loc} (hm : m ≤ b) (hg : H[b]? = some (.cells cs ty)) (hp : μ b = some p) (ho : o ≤ cs.length) (hv : VRs μ vs us) (hone : vs.all DV.one = true)
    (hroom : p.base + cs.length + us.length ≤ p.room) :
    (∀ (P : Program) (i off : Nat), off + i = p.base + cs.length → (storeCells ⟨p.blk, off, none⟩ us i).run P W = .ok () (setRow W p.blk (p.base + cs.length) us)) ∧
    Rel m (upd μ H.length ⟨p.blk, p.base + o, p.room⟩) (H.set b .gone ++ [.cells (cs.drop o ++ vs) ty]) (setRow W p.blk (p.base + cs.length) us) ∧
    Kept m μ H W (setRow W p.blk (p.base + cs.length) us) ∧ Fresh m μ H W (upd μ H.length ⟨p.blk, p.base + o, p.room⟩) (H.set b .gone ++ [.cells (cs.drop o ++ vs) ty]) := by
  have hul := VRs.len hv
  have hbl : b < H.length := (List.getElem?_eq_some_iff.1 hg).1
  obtain ⟨cc, fr, h1, h2, h3, h4⟩ := hr.g.br b (.cells cs ty) p hg hp
  obtain ⟨hfz, hdis⟩ := hr.g.wr b _ p hm hg (by simp) hp
  obtain ⟨cc', rs⟩ := setRow_spec p.blk ty fr us (p.base + cs.length) W cc h1 (by omega)
  have hn : μ H.length = none := hr.dom _ (Nat.le_refl _)
  have hmono := upd_mono (p := ⟨p.blk, p.base + o, p.room⟩) hn
  have hnew : ∀ q, upd μ H.length ⟨p.blk, p.base + o, p.room⟩ H.length = some q → q = ⟨p.blk, p.base + o, p.room⟩ := by
    intro q h; rw [upd_new] at h; exact (Option.some.inj h).symm
  have hold : ∀ b' q, upd μ H.length ⟨p.blk, p.base + o, p.room⟩ b' = some q → b' < H.length → μ b' = some q := by
    intro b' q h hb; rw [upd_old b' hb] at h; exact h
  have hsplit : ∀ {b' : Nat} {y : Blk}, (H.set b .gone ++ [.cells (cs.drop o ++ vs) ty])[b']? = some y → y ≠ .gone → (b' < H.length ∧ b' ≠ b ∧ H[b']? = some y) ∨ (b' = H.length ∧ y = .cells (cs.drop o ++ vs) ty) := by
    intro b' y h hy
    rcases get_append_one h with ⟨hb, h⟩ | ⟨e, e'⟩
    · rcases set_get h with ⟨_, e, _⟩ | ⟨hne, h⟩
      · exact absurd e.symm hy
      · exact .inl ⟨by simpa using hb, hne, h⟩
    · exact .inr ⟨by simpa using e, e'.symm⟩
  have hfrz : ∀ o', o' < p.room → (setRow W p.blk (p.base + cs.length) us).frozen? ⟨p.blk, o', none⟩ = false := by
    intro o' ho'
    have := hfz o' ho'
    unfold World.frozen? at this ⊢
    simp only [rs.here]
    simp only [h1] at this
    exact this
  refine ⟨fun P i off hoff => ?_, ⟨⟨?_, ?_, ?_⟩, ?_⟩, ⟨rs.os, rs.tape, rs.output, by rw [rs.size]; exact Nat.le_refl _, ?_⟩, ?_⟩
  · rw [run_storeCells P p.blk off ty fr us i W cc h1 (by omega) (fun o' ho1 ho2 => hfz o' (by omega)) (hv.ones hone), hoff]
  · intro b' x q hg' hq
    by_cases hx : x = .gone
    · subst hx; trivial
    rcases hsplit hg' hx with ⟨hb, hne, hg'⟩ | ⟨rfl, e⟩
    · have hq := hold b' q hq hb
      exact (hr.g.br b' x q hg' hq).mono hmono (rs.other _ (hdis b' x q hne hg' hx hq))
    · subst e
      rw [hnew q hq]
      refine ⟨cc', fr, rs.here, by rw [rs.csize]; exact h2, by simp; omega, fun i v hi => ?_⟩
      rw [rs.cell]
      simp only
      by_cases hc : i < cs.length - o
      · rw [List.getElem?_append_left (by simp; omega), List.getElem?_drop] at hi
        rw [if_neg (by omega)]
        obtain ⟨u, hu, hvr⟩ := h4 _ v hi
        exact ⟨u, by rw [show p.base + o + i = p.base + (o + i) from by omega]; exact hu, VR.mono hmono _ _ hvr⟩
      · have hil := (List.getElem?_eq_some_iff.1 hi).1
        simp at hil
        rw [List.getElem?_append_right (by simp; omega)] at hi
        rw [if_pos (by omega)]
        obtain ⟨u, hu, hvr⟩ := VRs.get hv hi
        refine ⟨u, ?_, VR.mono hmono _ _ hvr⟩
        rw [← hu]
        congr 1
        simp; omega
  · intro b' x q hm' hg' hx hq
    rcases hsplit hg' hx with ⟨hb, hne, hg'⟩ | ⟨rfl, e⟩
    · have hq := hold b' q hq hb
      obtain ⟨k2, k3⟩ := hr.g.wr b' x q hm' hg' hx hq
      have hqp : q.blk ≠ p.blk := hdis b' x q hne hg' hx hq
      refine ⟨fun o' ho' => by rw [frozen_of_block (rs.other _ hqp)]; exact k2 o' ho', fun b2 x2 q2 hne2 hg2 hx2 hq2 => ?_⟩
      rcases hsplit hg2 hx2 with ⟨hb2, hneb, hg2⟩ | ⟨rfl, e⟩
      · exact k3 b2 x2 q2 hne2 hg2 hx2 (hold b2 q2 hq2 hb2)
      · rw [hnew q2 hq2]; simp only; exact fun e => hqp e.symm
    · rw [hnew q hq]
      refine ⟨hfrz, fun b2 x2 q2 hne2 hg2 hx2 hq2 => ?_⟩
      rcases hsplit hg2 hx2 with ⟨hb2, hneb, hg2⟩ | ⟨rfl, e⟩
      · exact hdis b2 x2 q2 hneb hg2 hx2 (hold b2 q2 hq2 hb2)
      · exact absurd rfl hne2
  · intro b' q hq
    rw [rs.size]
    by_cases e : b' = H.length
    · subst e; rw [hnew q hq]; exact hr.g.bd b p hp
    · unfold upd at hq; rw [if_neg e] at hq; exact hr.g.bd b' q hq
  · intro b' hb'
    simp at hb'
    unfold upd
    rw [if_neg (by omega)]
    exact hr.dom b' (by omega)
  · intro k hk hno
    exact rs.other k (fun hkp => hno b _ p hm hg (by simp) hp hkp.symm)
  · intro b' x q hx hl hq
    rcases hsplit hx hl with ⟨hb, hne, hg'⟩ | ⟨rfl, e⟩
    · exact .inr ⟨b', x, q, id, hg', hl, hold b' q hq hb, rfl⟩
    · rw [hnew q hq]
      exact .inr ⟨b, _, p, fun _ => hm, hg, by simp, hp, rfl⟩

theorem op_app (hr : Rel m μ H W) {ts : Array Nat} {e ty0 : Nat} {i : TypeInfo} (hty : AppTy P ts e i) {v w r : DV} {H' : DH} (h : dapp m H i.size e i.bytes v w = some (r, H')) {x y : Value} (hx : VR μ v x) (hy : VR μ w y) (hzc : ∀ z, i.zero = some z → z.cells.size = i.size) :
    ∃ u W' μ', (Builtin.append_ ts ty0 #[x, y]).run P W = .ok u W' ∧ Out m μ H W r H' μ' u W' := by
  unfold dapp at h
  split at h
  case h_1 => cases h
  case h_2 n hn =>
    have hlen := srcLen_run (P := P) (W := W) hn hy
    split at h
    case isTrue h0 =>
      subst h0
      have hus : ∃ us : Array Value, (Builtin.firstCells i.size 0 y).run P W = .ok us W ∧ us.toList = [] := by
        unfold srcLen at hn
        split at hn
        · simp only [VR] at hy; subst hy; exact ⟨#[], rfl, rfl⟩
        · simp only [VR] at hy; obtain ⟨p, hp, ad, c', rfl, _⟩ := hy
          exact ⟨#[], by simp [Builtin.firstCells, loadCells, loadCellsFrom], rfl⟩
        · simp only [VR] at hy; subst hy
          refine ⟨_, rfl, ?_⟩
          rw [extract_str]; simp
        · cases hn
      obtain ⟨us, hus, hue⟩ := hus
      split at h
      · injection h with h; injection h with e1 e2; subst e1 e2
        simp only [VR] at hx; subst hx
        refine ⟨_, _, μ, app_fit hty hlen (Nat.le_refl _) hus, Out.same hr (by simp [VR])⟩
      · rename_i b o k c e'
        injection h with h; injection h with e1 e2; subst e1 e2
        have hx' := hx
        simp only [VR] at hx
        obtain ⟨p, hp, ad, c', rfl, hc, hk, hor⟩ := hx
        refine ⟨.slice (some ad) k c', W, μ, ?_, Out.same hr hx'⟩
        rw [app_fit hty hlen (by omega) hus]
        simp [hue, storeCells]
      · cases h
    case isFalse hn0 =>
      split at h
      case h_1 => cases h
      case h_2 src hsrc =>
        obtain ⟨us, hus, hvs⟩ := srcCells_run (P := P) hr hsrc hn (Nat.le_refl _) hy
        have husl : us.size = src.length := by have := VRs.len hvs; simpa using this.symm
        split at h
        · -- onto nil
          split at h
          case isFalse => cases h
          case isTrue hb =>
            injection h with h; injection h with e1 e2; subst e1 e2
            simp only [VR] at hx; subst hx
            obtain ⟨us', hus', hvs'⟩ := srcCells_run (P := P) hr.drew hsrc hn (Nat.le_refl _) hy
            have husl' : us'.size = src.length := by have := VRs.len hvs'; simpa using this.symm
            obtain ⟨z, hz, hrun⟩ := app_grow (ty := ty0) hty (base := none) (k := 0) (cap := 0) (os := #[]) hlen (by omega) (by simpa using hb) rfl hus'
            simp only [Nat.zero_add] at hrun
            have hcap := grownCap_ge W n 0 e
            have hsz : src.length = n * i.size := by
              unfold srcCells at hsrc
              split at hsrc
              · simp only [srcLen] at hn; injection hn with hn; omega
              · split at hsrc
                case isFalse => cases hsrc
                case isTrue he =>
                  unfold DH.cellsAt at hsrc
                  split at hsrc
                  case h_2 => cases hsrc
                  case h_1 =>
                    split at hsrc
                    case isFalse => cases hsrc
                    case isTrue hl => injection hsrc with hsrc; rw [← hsrc]; simp; omega
              · split at hsrc
                case isFalse => cases hsrc
                case isTrue he =>
                  injection hsrc with hsrc; rw [← hsrc]
                  simp only [srcLen] at hn; injection hn with hn
                  simp [he, hn]
              · cases hsrc
            exact ⟨_, _, _, by simpa using hrun, Out.appNew hr (us := us') (zc := Builtin.zeroCells z.cells (grownCap W n 0 e - n)) (by simpa using hvs') _ hcap (by rw [size_zeroCells, hzc z hz]) (by rw [husl', hsz])⟩
        · rename_i b o k c e'
          split at h
          case isTrue hfit =>
            -- in place, within what is known
            split at h
            case isFalse => cases h
            case isTrue he =>
              subst he
              split at h
              case h_2 => cases h
              case h_1 H2 hput =>
                injection h with h; injection h with e1 e2; subst e1 e2
                simp only [VR] at hx
                obtain ⟨p, hp, ad, c', rfl, hc, hk, hor⟩ := hx
                rcases hor with ⟨rfl, hroom⟩ | ⟨h0, h1⟩
                case inr => omega
                obtain ⟨g1, g2, g3, g5, g4⟩ := hr.put hput hvs hp
                refine ⟨.slice (some ⟨p.blk, p.base + o, none⟩) (k + n) c', _, μ, ?_, ⟨fun _ _ => rfl, g2, ?_, g3, g5⟩⟩
                · rw [app_fit hty hlen (by omega) hus]
                  simp only [add_eq]
                  rw [g1 P 0 _ (by omega)]
                  simp
                · simp only [VR]; exact ⟨p, hp, _, _, rfl, hc, by omega, .inl ⟨rfl, hroom⟩⟩
          case isFalse hfit =>
            split at h
            case h_2 => cases h
            case h_1 cs ty' hg =>
              split at h
              case isFalse => cases h
              case isTrue hcond =>
                obtain ⟨hm, he, hty', hcov, hbb, hone⟩ := hcond
                subst he hty'
                injection h with h; injection h with e1 e2; subst e1 e2
                have hx' := hx
                simp only [VR] at hx
                obtain ⟨p, hp, ad, c', rfl, hc, hk, hor⟩ := hx
                have hsz : src.length = n * i.size := by
                  unfold srcCells at hsrc
                  split at hsrc
                  · simp only [srcLen] at hn; injection hn with hn; omega
                  · split at hsrc
                    case isFalse => cases hsrc
                    case isTrue he =>
                      unfold DH.cellsAt at hsrc
                      split at hsrc
                      case h_2 => cases hsrc
                      case h_1 =>
                        split at hsrc
                        case isFalse => cases hsrc
                        case isTrue hl => injection hsrc with hsrc; rw [← hsrc]; simp; omega
                  · split at hsrc
                    case isFalse => cases hsrc
                    case isTrue he =>
                      injection hsrc with hsrc; rw [← hsrc]
                      simp only [srcLen] at hn; injection hn with hn
                      simp [he, hn]
                  · cases hsrc
                by_cases hroomy : k + n ≤ c'
                · rcases hor with ⟨rfl, hroom⟩ | ⟨h0, h1⟩
                  case inr => omega
                  have hmul : k * i.size + n * i.size ≤ c' * i.size := by rw [← Nat.add_mul]; exact Nat.mul_le_mul_right _ hroomy
                  have hul := VRs.len hvs
                  obtain ⟨g1, g2, g3, g5⟩ := hr.inplace (o := o) hm hg hp (by omega) hvs hone (by omega)
                  refine ⟨.slice (some ⟨p.blk, p.base + o, none⟩) (k + n) c', _, _, ?_, ⟨fun b' hb' => upd_old b' hb', g2, ?_, g3, g5⟩⟩
                  · rw [app_fit hty hlen (by omega) hus]
                    simp only [add_eq]
                    rw [g1 P 0 _ (by omega)]
                    simp
                  · simp only [VR]
                    exact ⟨_, upd_new, _, _, rfl, hroomy, hroomy, .inl ⟨by simp, by simpa using hroom⟩⟩
                · obtain ⟨us', hus', hvs'⟩ := srcCells_run (P := P) hr.drew hsrc hn (Nat.le_refl _) hy
                  have husl' : us'.size = src.length := by have := VRs.len hvs'; simpa using this.symm
                  have hold : srcCells H i.size k (.sl b o k c i.size) = some (cs.drop o) := by
                    simp only [srcCells, if_true, DH.cellsAt, hg]
                    rw [if_pos (by omega)]
                    congr 1
                    rw [List.take_of_length_le (by simp; omega)]
                  obtain ⟨os, hos, hvo⟩ := srcCells_run (P := P) hr.drew hold (k := k) rfl (Nat.le_refl _) hx'
                  have hosl : os.size = (cs.drop o).length := by have := VRs.len hvo; simpa using this.symm
                  obtain ⟨z, hz, hrun⟩ := app_grow (ty := ty0) hty hlen (by omega) hbb hos hus'
                  have hcap := grownCap_ge W (k + n) c' ty'
                  have hnew := Out.appNew (hr.kill b) (us := os ++ us') (zc := Builtin.zeroCells z.cells (grownCap W (k + n) c' ty' - (k + n))) (ty := ty') (e := i.size) (n := k + n) (by simpa using hvo.append hvs') _ hcap (by rw [size_zeroCells, hzc z hz]) (by
                    rw [Array.size_append, hosl, husl', hsz]; simp; rw [Nat.add_mul]; omega)
                  simp only [List.length_set] at hnew
                  exact ⟨_, _, _, by simpa using hrun, ⟨fun b' hb' => hnew.old b' (by simpa using hb'), hnew.rel, hnew.val, hnew.kept.kill, hnew.fresh.kill⟩⟩
        · cases h

end
end Go.Proofs.Sh

namespace Go.Proofs.Sh
open Go Go.RowKit

section
variable {P : Program} {m : Nat} {μ : LMap} {H : DH} {W : World} {F : DF} {a : Act} {nt : Nat}

theorem op_cpy (hr : Rel m μ H W) {ts : Array Nat} {t e ty0 : Nat} {i : TypeInfo} (ht0 : ts[0]? = some t) (ht : P.underlying t = some (.slice e)) (hi : P.info? e = some i) {b o n c k : Nat} {w : DV} {vs : List DV} {H' : DH}
    (hk : srcLen w = some k) (hsrc : srcCells H i.size (min k n) w = some vs) (hput : H.put m b o vs = some H') {x y : Value} (hx : VR μ (.sl b o n c i.size) x) (hy : VR μ w y) :
    ∃ u W' μ', (Builtin.copy_ ts ty0 #[x, y]).run P W = .ok u W' ∧ Out m μ H W (.int .i64 (min k n : Nat)) H' μ' u W' := by
  have hlen := srcLen_run (P := P) (W := W) hk hy
  obtain ⟨us, hus, hvs⟩ := srcCells_run (P := P) hr hsrc hk (Nat.min_le_left _ _) hy
  simp only [VR] at hx
  obtain ⟨p, hp, ad, c', rfl, hc, hn, hor⟩ := hx
  obtain ⟨g1, g2, g3, g5, g4⟩ := hr.put hput hvs hp
  have hmin : Nat.min k n = min k n := rfl
  have hrun : (storeCells ad us.toList).run P W = .ok () (setRow W p.blk (p.base + o) us.toList) := by
    rcases hor with ⟨rfl, _⟩ | ⟨h0, _⟩
    · exact g1 P 0 _ (by omega)
    · have hz : us.toList = [] := by
        have hl := VRs.len hvs
        have : vs = [] := by
          subst h0
          unfold srcCells at hsrc
          split at hsrc
          · injection hsrc with h; exact h.symm
          · split at hsrc
            case isFalse => cases hsrc
            case isTrue =>
              unfold DH.cellsAt at hsrc
              split at hsrc
              case h_2 => cases hsrc
              case h_1 =>
                split at hsrc
                case isFalse => cases hsrc
                case isTrue => injection hsrc with h; rw [← h]; simp
          · split at hsrc
            case isFalse => cases hsrc
            case isTrue => injection hsrc with h; rw [← h]; simp
          · cases hsrc
        rw [this] at hl
        cases hu : us.toList with
        | nil => rfl
        | cons _ _ => rw [hu] at hl; simp at hl
      rw [hz]; rfl
  refine ⟨.int .i64 (min k n : Nat), _, μ, ?_, ⟨fun _ _ => rfl, g2, by simp only [VR], g3, g5⟩⟩
  unfold Builtin.copy_
  simp [ht0, run_underlying ht, hlen, run_sizeOf hi, hmin, hus, hrun, goInt]

theorem op_cpy_nil {ts : Array Nat} {t e ty0 : Nat} {i : TypeInfo} (ht0 : ts[0]? = some t) (ht : P.underlying t = some (.slice e)) (hi : P.info? e = some i) {k : Nat} {w : DV}
    (hk : srcLen w = some k) {y : Value} (hy : VR μ w y) :
    (Builtin.copy_ ts ty0 #[.slice none 0 0, y]).run P W = .ok (.int .i64 0) W := by
  have hlen := srcLen_run (P := P) (W := W) hk hy
  have hus : ∃ us : Array Value, (Builtin.firstCells i.size 0 y).run P W = .ok us W := by
    unfold srcLen at hk
    split at hk
    · simp only [VR] at hy; subst hy; exact ⟨#[], rfl⟩
    · simp only [VR] at hy; obtain ⟨p, hp, ad, c', rfl, _⟩ := hy
      exact ⟨#[], by simp [Builtin.firstCells, loadCells, loadCellsFrom]⟩
    · simp only [VR] at hy; subst hy
      exact ⟨_, rfl⟩
    · cases hk
  obtain ⟨us, hus⟩ := hus
  have hmin : Nat.min k 0 = 0 := by simp
  unfold Builtin.copy_
  simp [ht0, run_underlying ht, hlen, run_sizeOf hi, hus, goInt]

/-- the cells of n times a zero value -/
theorem reps_get {z : List DV} (hz : 0 < z.length) : ∀ (n i : Nat), i < n * z.length → (reps n z)[i]? = z[i % z.length]?
  | 0, i, h => by omega
  | n + 1, i, h => by
    unfold reps
    rw [List.replicate_succ, List.flatten_cons]
    by_cases hi : i < z.length
    · rw [List.getElem?_append_left hi, Nat.mod_eq_of_lt hi]
    · rw [List.getElem?_append_right (by omega)]
      have h1 : (n + 1) * z.length = n * z.length + z.length := Nat.succ_mul _ _
      have := reps_get hz n (i - z.length) (by omega)
      unfold reps at this
      rw [this]
      congr 1
      exact (Nat.mod_eq_sub_mod (by omega)).symm

theorem reps_len {z : List DV} : ∀ (n : Nat), (reps n z).length = n * z.length
  | 0 => by simp [reps]
  | n + 1 => by
    have := reps_len (z := z) n
    unfold reps at *
    rw [List.replicate_succ, List.flatten_cons, List.length_append, this, Nat.succ_mul]; omega

theorem reps_VRs {z : List DV} {zc : Array Value} (hz : VRs μ z zc.toList) (hp : 0 < zc.size) (n : Nat) : VRs μ (reps n z) ((Array.range (n * zc.size)).map (zc[· % zc.size]!)).toList := by
  have hl := VRs.len hz
  simp at hl
  refine VRs.of_get (by rw [reps_len]; simp [hl]) fun i v u hv hu => ?_
  have hi : i < n * zc.size := by
    have := (List.getElem?_eq_some_iff.1 hv).1
    rw [reps_len, hl] at this; exact this
  rw [reps_get (by omega) n i (by rw [hl]; exact hi), hl] at hv
  obtain ⟨u', hu', hvr⟩ := VRs.get hz hv
  have hm : i % zc.size < zc.size := Nat.mod_lt _ hp
  have : u = u' := by
    have h1 : ((Array.range (n * zc.size)).map (zc[· % zc.size]!))[i]? = some u := by rw [← Array.getElem?_toList]; exact hu
    rw [Array.getElem?_map, Array.getElem?_range] at h1
    simp [hi] at h1
    have h2 : zc[i % zc.size]? = some u' := by simpa using hu'
    rw [← h1, Array.getElem!_eq_getD, Array.getD_eq_getD_getElem?, h2]; rfl
  rw [this]; exact hvr

theorem op_mks (hr : Rel m μ H W) {t e : Nat} {i : TypeInfo} {z : List DV} (ht : P.underlying t = some (.slice e)) (hi : P.info? e = some i) (hz : zeroOf P e = some z) (hp : 0 < i.size) {l c : Int} (h0 : 0 ≤ l) (hlc : l ≤ c) (hb : (i.bytes : Int) * c ≤ 70368744177664) (hb1 : 0 < i.bytes)
    {x y : Value} (hx : VR μ (.int .i64 l) x) (hy : VR μ (.int .i64 c) y) :
    ∃ u W' μ', (Instr.makeSlice t x y).run P W = .ok u W' ∧ Out m μ H W (.sl H.length 0 l.toNat c.toNat i.size) (H ++ [.cells (reps c.toNat z) e]) μ' u W' := by
  simp only [VR] at hx hy
  subst hx hy
  obtain ⟨i', zv, hi', hzv, hs, hd⟩ := zeroOf_spec hz
  rw [hi] at hi'; injection hi' with hi'; subst hi'
  have hc : c ≤ 70368744177664 := by
    have : c ≤ (i.bytes : Int) * c := by
      have h1 : (1 : Int) ≤ i.bytes := by omega
      have := Int.mul_le_mul_of_nonneg_right h1 (show (0 : Int) ≤ c by omega)
      omega
    omega
  refine ⟨_, _, upd μ H.length ⟨W.heap.size, 0, (madeCells zv.cells (c.toNat * i.size)).size⟩, run_make W t e i zv ht hi hzv .i64 .i64 l c h0 hlc (by omega) (by omega), ?_⟩
  have hv := reps_VRs (μ := μ) (dvsL_VR hd) (by omega) c.toNat
  have e1 : madeCells zv.cells (c.toNat * i.size) = (Array.range (c.toNat * zv.cells.size)).map (zv.cells[· % zv.cells.size]!) := by unfold madeCells; rw [hs]
  have := Out.newBlk hr (cs := reps c.toNat z) (cc := madeCells zv.cells (c.toNat * i.size)) (ty := e) (by rw [e1]; exact hv)
  refine ⟨this.old, this.rel, ?_, this.kept, this.fresh⟩
  simp only [VR]
  refine ⟨_, upd_new, _, _, rfl, Nat.le_refl _, by omega, .inl ⟨by simp, ?_⟩⟩
  simp [size_madeCells]

/-! ### Structs, arrays and rows that are built -/

theorem zipIdx_fold : ∀ (cs : List Value) (base : Nat) (off : Nat) (acc : Array Value), off + base + cs.length ≤ acc.size →
    ((cs.zipIdx base).foldl (fun acc (x : Value × Nat) => acc.setIfInBounds (off + x.2) x.1) acc).size = acc.size ∧
    ∀ j : Nat, ((cs.zipIdx base).foldl (fun acc (x : Value × Nat) => acc.setIfInBounds (off + x.2) x.1) acc)[j]? = if off + base ≤ j ∧ j < off + base + cs.length then cs[j - (off + base)]? else acc[j]?
  | [], base, off, acc, _ => by
    simp only [List.zipIdx_nil, List.foldl_nil, List.length_nil]
    exact ⟨trivial, fun j => by rw [if_neg (by omega)]⟩
  | c :: cs, base, off, acc, h => by
    simp only [List.length_cons] at h
    rw [List.zipIdx_cons, List.foldl_cons]
    obtain ⟨h1, h2⟩ := zipIdx_fold cs (base + 1) off (acc.setIfInBounds (off + base) c) (by simp; omega)
    refine ⟨by rw [h1]; simp, fun j => ?_⟩
    rw [h2 j, Array.getElem?_setIfInBounds]
    simp only [List.length_cons]
    by_cases e : off + base = j
    · subst e
      rw [if_neg (by omega), if_pos rfl, if_pos (by omega), if_pos (by omega)]
      simp
    · by_cases hc : off + (base + 1) ≤ j ∧ j < off + (base + 1) + cs.length
      · rw [if_pos hc, if_pos (by omega)]
        rw [show j - (off + base) = (j - (off + (base + 1))) + 1 from by omega, List.getElem?_cons_succ]
      · rw [if_neg hc, if_neg e, if_neg (by omega)]

theorem fill_run {place : Nat → Option (Nat × Nat)} (hf : FR μ F a nt) : ∀ (ps : List (Nat × Operand)) (l : List (Nat × Nat × DX)), cParts place ps = some l → ∀ (lv : List (Nat × Nat × DV)), evps F l = some lv → ∀ (z cs : List DV) (zc : Array Value), VRs μ z zc.toList → fillD z lv = some cs →
    ∃ cc : Array Value, Instr.fill place zc (ps.map fun x => (x.1, a.eval x.2)) = some cc ∧ VRs μ cs cc.toList
  | [], l, h, lv, hl, z, cs, zc, hz, hfill => by
    simp only [cParts] at h; injection h with h; subst h
    simp only [evps] at hl; injection hl with hl; subst hl
    simp only [fillD] at hfill; injection hfill with hfill; subst hfill
    exact ⟨zc, rfl, hz⟩
  | (i, x) :: ps, l, h, lv, hl, z, cs, zc, hz, hfill => by
    simp only [cParts] at h
    split at h
    case h_2 => cases h
    case h_1 off n d rest hpl hd hrest =>
      injection h with h; subst h
      simp only [evps] at hl
      split at hl
      case h_2 => cases hl
      case h_1 v hv =>
        split at hl
        case h_2 => cases hl
        case h_1 lv' hlv' =>
          injection hl with hl; subst hl
          simp only [fillD] at hfill
          split at hfill
          case isFalse => cases hfill
          case isTrue hc =>
            obtain ⟨hn, hoff⟩ := hc
            have hvr := cX_VR hf hd hv
            have hcl := hvr.cellsLen
            have hzl := VRs.len hz
            simp at hzl
            have hstep : VRs μ (z.take off ++ v.cells ++ z.drop (off + n)) (((a.eval x).cells.zipIdx).foldl (fun cs (y : Value × Nat) => cs.setIfInBounds (off + y.2) y.1) zc).toList := by
              obtain ⟨z1, z2⟩ := zipIdx_fold (a.eval x).cells.toList 0 off zc (by simp; omega)
              rw [← Array.foldl_toList, Array.toList_zipIdx]
              refine VRs.of_get (by simp [z1]; omega) fun j y u hy hu => ?_
              rw [Array.getElem?_toList, z2 j] at hu
              simp only [Array.length_toList, Nat.add_zero] at hu
              rw [← hn] at hy
              have hspl := splice_get (cs := z) (o := off) (vs := v.cells) (by omega) j
              unfold splice at hspl
              rw [hspl] at hy
              by_cases hc : off ≤ j ∧ j < off + v.cells.length
              · rw [if_pos hc] at hy
                rw [if_pos (by omega)] at hu
                obtain ⟨u', hu', hvr'⟩ := VRs.get hvr.cells hy
                have : u' = u := by rw [hu'] at hu; exact Option.some.inj hu
                rw [← this]; exact hvr'
              · rw [if_neg hc] at hy
                rw [if_neg (by omega)] at hu
                obtain ⟨u', hu', hvr'⟩ := VRs.get hz hy
                have : u' = u := by rw [Array.getElem?_toList, hu] at hu'; exact (Option.some.inj hu').symm
                rw [← this]; exact hvr'
            obtain ⟨cc, h1, h2⟩ := fill_run hf ps rest hrest lv' hlv' _ cs _ hstep hfill
            refine ⟨cc, ?_, h2⟩
            simp only [List.map_cons, Instr.fill, hpl]
            rw [if_neg (by simp; omega)]
            exact h1

end
end Go.Proofs.Sh

namespace Go.Proofs.Sh
open Go Go.RowKit

/-! ### Maps -/

section
variable {P : Program} {m : Nat} {μ : LMap} {H H' : DH} {W : World} {F : DF} {a : Act} {nt : Nat}

theorem keyKind_cases {kt kd : Nat} (hk : keyKind P kt = some kd) : (kd = 0 ∧ P.underlying kt = some .bool) ∨ (kd = 1 ∧ ∃ k, P.underlying kt = some (.int k)) ∨ (kd = 2 ∧ P.underlying kt = some .string) := by
  unfold keyKind at hk
  split at hk
  · injection hk with hk; exact .inl ⟨hk.symm, by assumption⟩
  · injection hk with hk; exact .inr (.inl ⟨hk.symm, _, by assumption⟩)
  · injection hk with hk; exact .inr (.inr ⟨hk.symm, by assumption⟩)
  · cases hk

theorem beq_str (a b : List UInt8) : ((⟨⟨a⟩⟩ : ByteArray) == ⟨⟨b⟩⟩) = decide (a = b) := by
  show ((Array.mk a) == (Array.mk b)) = decide (a = b)
  by_cases h : a = b
  · subst h; simp
  · simp [h]

theorem eqc_now {kt kd : Nat} {desc : TypeDesc} (hk : keyKind P kt = some kd) (hd : P.underlying kt = some desc) {k w : DV} {u x : Value} (hku : VR μ k u) (hx : VR μ w x) {r : Bool} (h : eqc kd k w = some r) :
    Instr.sameNow desc u x = some r ∧ (r = true → Instr.sameBits 10000 x u = true) := by
  rcases keyKind_cases hk with ⟨rfl, h1⟩ | ⟨rfl, k1, h1⟩ | ⟨rfl, h1⟩
  · rw [h1] at hd; injection hd with hd; subst hd
    unfold eqc at h
    split at h <;> first | (cases h; done) | (exfalso; omega; done) | skip
    · simp only [VR] at hku hx; subst hku hx
      injection h with h; subst h
      refine ⟨rfl, fun e => ?_⟩
      have := eq_of_beq e; subst this
      simp [Instr.sameBits]
  · rw [h1] at hd; injection hd with hd; subst hd
    unfold eqc at h
    split at h <;> first | (cases h; done) | (exfalso; omega; done) | skip
    · simp only [VR] at hku hx; subst hku hx
      split at h
      case isFalse => cases h
      case isTrue hkk =>
        subst hkk
        injection h with h; subst h
        refine ⟨by simp [Instr.sameNow, Bool.beq_eq_decide_eq], fun e => ?_⟩
        have := of_decide_eq_true e; subst this
        simp [Instr.sameBits]
  · rw [h1] at hd; injection hd with hd; subst hd
    unfold eqc at h
    split at h <;> first | (cases h; done) | (exfalso; omega; done) | skip
    · simp only [VR] at hku hx; subst hku hx
      injection h with h; subst h
      refine ⟨by simp only [Instr.sameNow]; rw [beq_str], fun e => ?_⟩
      have := of_decide_eq_true e; subst this
      simp only [Instr.sameBits]
      rw [beq_str]; exact e

theorem findE_now {kt kd : Nat} {desc : TypeDesc} (hk : keyKind P kt = some kd) (hd : P.underlying kt = some desc) {k : DV} {u : Value} (hku : VR μ k u) : ∀ {es : List Ent} {xs : List MapEntry}, EntsR μ es xs → ∀ {i : Nat} {r : Option (Nat × DV)}, findE kd k es i = some r →
    (r = none ∧ Instr.findNow desc u xs i = some none) ∨ ∃ j v x, r = some (i + j, v) ∧ Instr.findNow desc u xs i = some (some (i + j, x.val)) ∧ xs[j]? = some x ∧ VR μ v x.val ∧ Instr.sameBits 10000 x.key u = true
  | [], [], _, i, r, h => by
    simp only [findE] at h; injection h with h; subst h
    exact .inl ⟨rfl, rfl⟩
  | e :: es, x :: xs, hx, i, r, h => by
    simp only [EntsR] at hx
    obtain ⟨h1, h2, h3, h4⟩ := hx
    simp only [findE] at h
    split at h
    · rename_i he
      obtain ⟨g1, g2⟩ := eqc_now hk hd hku h1 he
      injection h with h; subst h
      exact .inr ⟨0, e.v, x, rfl, by simp only [Instr.findNow, g1]; rfl, rfl, h2, g2 rfl⟩
    · rename_i he
      obtain ⟨g1, g2⟩ := eqc_now hk hd hku h1 he
      rcases findE_now hk hd hku h4 h with ⟨k1, k2⟩ | ⟨j, v, y, k1, k2, k3, k4, k5⟩
      · exact .inl ⟨k1, by simp only [Instr.findNow, g1]; exact k2⟩
      · refine .inr ⟨j + 1, v, y, by rw [k1]; congr 2; omega, by simp only [Instr.findNow, g1]; rw [k2]; congr 3; omega, by simpa using k3, k4, k5⟩
    · cases h
  | [], _ :: _, h, _, _, _ => by simp only [EntsR] at h
  | _ :: _, [], h, _, _, _ => by simp only [EntsR] at h

theorem EntsR.len : ∀ {es : List Ent} {xs : List MapEntry}, EntsR μ es xs → es.length = xs.length
  | [], [], _ => rfl
  | _ :: _, _ :: _, h => by simp only [EntsR] at h; simp [EntsR.len h.2.2.2]
  | [], _ :: _, h => by simp only [EntsR] at h
  | _ :: _, [], h => by simp only [EntsR] at h

theorem EntsR.push : ∀ {es : List Ent} {xs : List MapEntry}, EntsR μ es xs → ∀ {e : Ent} {x : MapEntry}, VR μ e.k x.key → VR μ e.v x.val → e.born = x.born → EntsR μ (es ++ [e]) (xs ++ [x])
  | [], [], _, e, x, h1, h2, h3 => by simp only [List.nil_append, EntsR]; exact ⟨h1, h2, h3, trivial⟩
  | _ :: _, _ :: _, h, e, x, h1, h2, h3 => by
    simp only [EntsR, List.cons_append] at *
    exact ⟨h.1, h.2.1, h.2.2.1, EntsR.push h.2.2.2 h1 h2 h3⟩
  | [], _ :: _, h, _, _, _, _, _ => by simp only [EntsR] at h
  | _ :: _, [], h, _, _, _, _, _ => by simp only [EntsR] at h

theorem EntsR.modify {k v : DV} {u w : Value} (hk : VR μ k u) (hv : VR μ v w) : ∀ {es : List Ent} {xs : List MapEntry}, EntsR μ es xs → ∀ (j : Nat), EntsR μ (es.modify j fun e => { e with k := k, v := v }) (xs.modify j fun e => { e with key := u, val := w })
  | [], [], _, j => by simp [EntsR]
  | e :: es, x :: xs, h, 0 => by
    simp only [EntsR, List.modify_zero_cons] at *
    exact ⟨hk, hv, h.2.2.1, h.2.2.2⟩
  | e :: es, x :: xs, h, j + 1 => by
    simp only [EntsR, List.modify_succ_cons] at *
    exact ⟨h.1, h.2.1, h.2.2.1, EntsR.modify hk hv h.2.2.2 j⟩
  | [], _ :: _, h, _ => by simp only [EntsR] at h
  | _ :: _, [], h, _ => by simp only [EntsR] at h

theorem EntsR.erase : ∀ {es : List Ent} {xs : List MapEntry}, EntsR μ es xs → ∀ (j : Nat), EntsR μ (es.eraseIdx j) (xs.eraseIdx j)
  | [], [], _, j => by simp [EntsR]
  | e :: es, x :: xs, h, 0 => by simp only [EntsR, List.eraseIdx_zero, List.tail_cons] at *; exact h.2.2.2
  | e :: es, x :: xs, h, j + 1 => by
    simp only [EntsR, List.eraseIdx_cons_succ] at *
    exact ⟨h.1, h.2.1, h.2.2.1, EntsR.erase h.2.2.2 j⟩
  | [], _ :: _, h, _ => by simp only [EntsR] at h
  | _ :: _, [], h, _ => by simp only [EntsR] at h

/-- what a map holds -/
theorem mapAt_run (hr : Rel m μ H W) {x : DV} {es : List Ent} (h : mapAt H x = some es) {v : Value} (hv : VR μ x v) :
    (es = [] ∧ v = .map none) ∨ ∃ r xs clock, v = .map (some r) ∧ W.heap[r]? = some (.map xs clock) ∧ EntsR μ es xs.toList := by
  unfold mapAt at h
  split at h
  · injection h with h; subst h
    simp only [VR] at hv
    exact .inl ⟨rfl, hv⟩
  · rename_i b
    split at h
    case h_2 => cases h
    case h_1 es' clock hb =>
      injection h with h; subst h
      simp only [VR] at hv
      obtain ⟨p, hp, rfl⟩ := hv
      obtain ⟨_, _, xs, h1, h2⟩ := hr.g.br b _ p hb hp
      exact .inr ⟨p.blk, xs, clock, rfl, h1, h2⟩
  · cases h

theorem run_getMap {r : Nat} {xs : Array MapEntry} {c : Nat} (h : W.heap[r]? = some (.map xs c)) : (getObj r).run P W = .ok (.map xs c) W := by
  simp [getObj, Sem.run, h]

theorem run_setMap {r : Nat} {xs : Array MapEntry} {c : Nat} {o' : Obj} (h : W.heap[r]? = some (.map xs c)) : (setObj r o').run P W = .ok () { W with heap := W.heap.setIfInBounds r o' } := by
  simp [setObj, Sem.run, h]

theorem run_getIter {r s st : Nat} {m : Option Nat} {xs : Array Nat} (h : W.heap[r]? = some (.mapIter m s xs st)) : (getObj r).run P W = .ok (.mapIter m s xs st) W := by
  simp [getObj, Sem.run, h]

theorem run_setIter {r s st : Nat} {m : Option Nat} {xs : Array Nat} {o' : Obj} (h : W.heap[r]? = some (.mapIter m s xs st)) : (setObj r o').run P W = .ok () { W with heap := W.heap.setIfInBounds r o' } := by
  simp [setObj, Sem.run, h]

theorem run_checkKey' {kt kd : Nat} (hk : keyKind P kt = some kd) (e : Bool) (v : Value) (n : Nat) : (Instr.checkKey e (n + 1) kt v).run P W = .ok () W := by
  rcases keyKind_cases hk with ⟨rfl, h1⟩ | ⟨rfl, k1, h1⟩ | ⟨rfl, h1⟩ <;> simp [Instr.checkKey, run_underlying h1]

theorem run_checkKey {kt kd : Nat} (hk : keyKind P kt = some kd) (e : Bool) (v : Value) : (Instr.checkKey e 10000 kt v).run P W = .ok () W := run_checkKey' hk e v 9999

theorem run_findKey {kt : Nat} {desc : TypeDesc} (hd : P.underlying kt = some desc) {u : Value} {xs : List MapEntry} {r : Option (Nat × Value)} (h : Instr.findNow desc u xs 0 = some r) : (Instr.findKey kt u xs).run P W = .ok r W := by
  unfold Instr.findKey
  simp [run_underlying hd, h]

theorem keyKind_under {kt kd : Nat} (hk : keyKind P kt = some kd) : ∃ desc, P.underlying kt = some desc := by
  rcases keyKind_cases hk with ⟨_, h⟩ | ⟨_, k, h⟩ | ⟨_, h⟩
  · exact ⟨_, h⟩
  · exact ⟨_, h⟩
  · exact ⟨_, h⟩

theorem op_lku (hr : Rel m μ H W) {t kt et kd : Nat} (ht : P.underlying t = some (.map kt et)) (hk : keyKind P kt = some kd) {z : DV} (hz : zeroVal P et = some z) {ok : Bool} {x k : DV} {es : List Ent} (hx : mapAt H x = some es) {v u : Value} (hv : VR μ x v) (hu : VR μ k u)
    {r : Option (Nat × DV)} (hf : findE kd k es 0 = some r) :
    ∃ w, (Instr.lookup t v u ok).run P W = .ok w W ∧ VR μ (match r with
      | some (_, y) => if ok then .tup [y, .bool true] else y
      | none => if ok then .tup [z, .bool false] else z) w := by
  obtain ⟨desc, hd⟩ := keyKind_under hk
  have hz' : ∃ zv, (zeroValue et).run P W = .ok zv W ∧ VR μ z zv := by
    unfold zeroVal at hz
    split at hz
    · rename_i i hi
      split at hz
      · rename_i zv hzv
        exact ⟨zv, run_zeroValue hi hzv, dvK_VR hz⟩
      · cases hz
    · cases hz
  obtain ⟨zv, hz1, hz2⟩ := hz'
  rcases mapAt_run hr hx hv with ⟨rfl, rfl⟩ | ⟨r', xs, clock, rfl, h1, h2⟩
  · simp only [findE] at hf; injection hf with hf; subst hf
    unfold Instr.lookup
    simp only [Sem.run_bind, run_underlying ht, Result.andThen_ok, Sem.run_pure, run_checkKey hk, run_findKey hd (show Instr.findNow desc u (#[] : Array MapEntry).toList 0 = some none from rfl), hz1]
    cases ok with
    | true => exact ⟨_, rfl, by simp only [if_true, VR]; exact ⟨_, rfl, by simp only [VRs, VR]; exact ⟨hz2, trivial, trivial⟩⟩⟩
    | false => exact ⟨_, rfl, by simpa using hz2⟩
  · unfold Instr.lookup
    simp only [Sem.run_bind, run_underlying ht, Result.andThen_ok, Sem.run_pure, run_getMap h1, run_checkKey hk]
    rcases findE_now hk hd hu h2 hf with ⟨rfl, k2⟩ | ⟨j, y, e, rfl, k2, k3, k4, _⟩
    · simp only [run_findKey hd k2, Result.andThen_ok, Sem.run_bind, hz1, Sem.run_pure]
      cases ok with
      | true => exact ⟨_, rfl, by simp only [if_true, VR]; exact ⟨_, rfl, by simp only [VRs, VR]; exact ⟨hz2, trivial, trivial⟩⟩⟩
      | false => exact ⟨_, rfl, by simpa using hz2⟩
    · simp only [run_findKey hd k2, Result.andThen_ok, Sem.run_bind, Sem.run_pure]
      cases ok with
      | true => exact ⟨_, rfl, by simp only [if_true, VR]; exact ⟨_, rfl, by simp only [VRs, VR]; exact ⟨k4, trivial, trivial⟩⟩⟩
      | false => exact ⟨_, rfl, by simpa using k4⟩

/-- the heap with another object in a block -/
theorem heap_set {r : Nat} {o o' : Obj} (h : W.heap[r]? = some o) : (W.heap.setIfInBounds r o')[r]? = some o' ∧ (∀ k, k ≠ r → (W.heap.setIfInBounds r o')[k]? = W.heap[k]?) := by
  have hlt : r < W.heap.size := (Array.getElem?_eq_some_iff.1 h).1
  refine ⟨by simp [hlt], fun k hk => ?_⟩
  rw [Array.getElem?_setIfInBounds, if_neg (fun e => hk e.symm)]

theorem Out.setObj (hr : Rel m μ H W) {b : Nat} {x x' : Blk} {p : Loc} {o o' : Obj} (hm : m ≤ b) (hg : H[b]? = some x) (hl : x ≠ .gone) (hp : μ b = some p) (ho : W.heap[p.blk]? = some o) (hroom : p.room = 0)
    (hb : BlkR μ { W with heap := W.heap.setIfInBounds p.blk o' } p x') {v : DV} {u : Value} (hv : VR μ v u) : Out m μ H W v (H.set b x') μ u { W with heap := W.heap.setIfInBounds p.blk o' } := by
  obtain ⟨h1, h2⟩ := heap_set (o' := o') ho
  obtain ⟨r1, r2, r3⟩ := hr.set' (W' := { W with heap := W.heap.setIfInBounds p.blk o' }) hm hg hl hp h2 (by simp) hb (fun o ho => by omega) rfl rfl rfl
  exact ⟨fun _ _ => rfl, r1, hv, r2, r3⟩

theorem setAt_some {b : Nat} {x : Blk} (h : H.setAt m b x = some H') : m ≤ b ∧ H' = H.set b x := by
  unfold DH.setAt at h
  split at h
  · injection h with h; exact ⟨by assumption, h.symm⟩
  · cases h

theorem op_mup (hr : Rel m μ H W) {t kt et kd : Nat} (ht : P.underlying t = some (.map kt et)) (hk : keyKind P kt = some kd) {b clock : Nat} {es : List Ent} (hb : H[b]? = some (.map es clock)) {x : Value} (hx : VR μ (.mp b) x) {k v : DV} {u w : Value} (hu : VR μ k u) (hw : VR μ v w)
    {r : Option (Nat × DV)} (hf : findE kd k es 0 = some r)
    (hH : (match r with
      | some (i, _) => H.setAt m b (.map (es.modify i fun e => { e with k := k, v := v }) clock)
      | none => H.setAt m b (.map (es ++ [⟨k, v, clock⟩]) (clock + 1))) = some H') :
    ∃ W', (Instr.mapUpdate t x u w).run P W = .ok () W' ∧ Out m μ H W DV.undef H' μ Go.undef W' := by
  simp only [VR] at hx
  obtain ⟨p, hp, rfl⟩ := hx
  obtain ⟨b1, b2, xs, h1, h2⟩ := hr.g.br b _ p hb hp
  obtain ⟨desc, hd⟩ := keyKind_under hk
  unfold Instr.mapUpdate
  simp only [Sem.run_bind, run_underlying ht, Result.andThen_ok, run_getMap h1, run_checkKey hk]
  rcases findE_now hk hd hu h2 hf with ⟨rfl, k2⟩ | ⟨j, y, e, rfl, k2, k3, k4, k5⟩
  · obtain ⟨hm, rfl⟩ := setAt_some hH
    simp only [run_findKey hd k2, Result.andThen_ok, run_setMap h1]
    refine ⟨_, rfl, Out.setObj hr hm hb (by simp) hp h1 b2 ?_ undef_VR⟩
    refine ⟨b1, b2, _, (heap_set h1).1, ?_⟩
    simpa using h2.push (e := ⟨k, v, clock⟩) (x := { key := u, val := w, born := clock }) hu hw rfl
  · obtain ⟨hm, rfl⟩ := setAt_some hH
    simp only [Nat.zero_add] at *
    have hxs : xs[j]? = some e := by simpa using k3
    simp only [run_findKey hd k2, Result.andThen_ok, Sem.run_bind]
    have hold : ((xs[j]?).map (·.key)).getD u = e.key := by rw [hxs]; rfl
    rw [hold]
    unfold Instr.keyThatStays
    rw [if_pos k5]
    simp only [Sem.run_pure, Result.andThen_ok, run_setMap h1]
    refine ⟨_, rfl, Out.setObj hr hm hb (by simp) hp h1 b2 ?_ undef_VR⟩
    refine ⟨b1, b2, _, (heap_set h1).1, ?_⟩
    rw [Array.toList_modify]
    exact h2.modify hu hw j

theorem op_mdl (hr : Rel m μ H W) {t kt et kd : Nat} (ht : P.underlying t = some (.map kt et)) (hk : keyKind P kt = some kd) {b clock : Nat} {es : List Ent} (hb : H[b]? = some (.map es clock)) {x : Value} (hx : VR μ (.mp b) x) {k : DV} {u : Value} (hu : VR μ k u) {ts : Array Nat} (hts : ts[0]? = some t) {ty : Nat}
    {r : Option (Nat × DV)} (hf : findE kd k es 0 = some r)
    (hH : (match r with
      | some (i, _) => H.setAt m b (.map (es.eraseIdx i) clock)
      | none => H.setAt m b (.map es clock)) = some H') :
    ∃ W', (Builtin.delete_ ts ty #[x, u]).run P W = .ok (.tuple #[]) W' ∧ Out m μ H W (.tup []) H' μ (.tuple #[]) W' := by
  simp only [VR] at hx
  obtain ⟨p, hp, rfl⟩ := hx
  obtain ⟨b1, b2, xs, h1, h2⟩ := hr.g.br b _ p hb hp
  obtain ⟨desc, hd⟩ := keyKind_under hk
  have hvt : VR μ (.tup []) (.tuple #[]) := by simp only [VR]; exact ⟨#[], rfl, by simp only [VRs]⟩
  unfold Builtin.delete_
  simp only [hts, List.getElem?_toArray, List.getElem?_cons_zero, List.getElem?_cons_succ, Sem.run_bind, run_underlying ht, Result.andThen_ok, run_getMap h1, run_checkKey hk]
  rcases findE_now hk hd hu h2 hf with ⟨rfl, k2⟩ | ⟨j, y, e, rfl, k2, k3, k4, k5⟩
  · obtain ⟨hm, rfl⟩ := setAt_some hH
    simp only [Sem.run_bind, run_findKey hd k2, Result.andThen_ok, run_setMap h1, Sem.run_pure]
    refine ⟨_, rfl, Out.setObj hr hm hb (by simp) hp h1 b2 ?_ hvt⟩
    exact ⟨b1, b2, _, (heap_set h1).1, h2⟩
  · obtain ⟨hm, rfl⟩ := setAt_some hH
    simp only [Nat.zero_add] at *
    simp only [Sem.run_bind, run_findKey hd k2, Result.andThen_ok, run_setMap h1, Sem.run_pure]
    refine ⟨_, rfl, Out.setObj hr hm hb (by simp) hp h1 b2 ?_ hvt⟩
    refine ⟨b1, b2, _, (heap_set h1).1, ?_⟩
    have hlt : j < xs.size := by have := (List.getElem?_eq_some_iff.1 k3).1; simpa using this
    have : (xs.eraseIdxIfInBounds j).toList = xs.toList.eraseIdx j := by simp
    rw [this]
    exact h2.erase j

theorem op_mkm (hr : Rel m μ H W) {t : Nat} : ∃ u W' μ', (Instr.makeMap t none).run P W = .ok u W' ∧ Out m μ H W (.mp H.length) (H ++ [.map [] 0]) μ' u W' := by
  refine ⟨_, _, upd μ H.length ⟨W.heap.size, 0, 0⟩, rfl, ?_⟩
  have ha : Alloc W (W.alloc (.map #[] 0)) (.map #[] 0) := Alloc.alloc _ _
  refine ⟨upd_old, hr.alloc' rfl ha ⟨rfl, rfl, #[], ha.new, by simp only [EntsR]⟩ (fun o ho => by simp only at ho; omega), ?_, ha.kept, Fresh.alloc (Nat.le_refl _)⟩
  simp only [VR]
  exact ⟨_, upd_new, rfl⟩

theorem op_rng (hr : Rel m μ H W) {t kt et : Nat} (ht : P.underlying t = some (.map kt et)) {x r : DV} {v : Value} (hv : VR μ x v)
    (h : (match x with
      | .nilm => some (DV.ptr H.length 0, H ++ [Blk.iter none 0 [] 0])
      | .mp b => (match H[b]? with
        | some (.map _ clock) => some (DV.ptr H.length 0, H ++ [Blk.iter (some b) clock [] clock])
        | _ => none)
      | _ => none) = some (r, H')) : ∃ u W' μ', (Instr.range t v).run P W = .ok u W' ∧ Out m μ H W r H' μ' u W' := by
  have fin : ∀ {it : Obj} {y : Blk}, (∀ q : Loc, q.base = 0 → q.room = 0 → q.blk = W.heap.size → BlkR (upd μ H.length q) (W.alloc it) q y) → Out m μ H W (.ptr H.length 0) (H ++ [y]) (upd μ H.length ⟨W.heap.size, 0, 0⟩) (.pointer (some ⟨W.heap.size, 0, none⟩)) (W.alloc it) := by
    intro it y hy
    have ha : Alloc W (W.alloc it) it := Alloc.alloc _ _
    refine ⟨upd_old, hr.alloc' rfl ha (hy _ rfl rfl rfl) (fun o ho => by simp only at ho; omega), ?_, ha.kept, Fresh.alloc (Nat.le_refl _)⟩
    simp only [VR]
    exact ⟨_, upd_new, by simp⟩
  cases x <;> simp only at h <;> first | (cases h; done) | skip
  case nilm =>
    injection h with h; injection h with e1 e2; subst e1 e2
    simp only [VR] at hv; subst hv
    refine ⟨_, _, _, ?_, fin (it := .mapIter none 0 #[] 0) fun q h1 h2 h3 => ⟨h1, h2, by rw [h3]; exact (Alloc.alloc _ _).new⟩⟩
    unfold Instr.range
    simp [run_underlying ht]
  case mp b =>
    split at h
    case h_2 => cases h
    case h_1 es clock hb =>
      injection h with h; injection h with e1 e2; subst e1 e2
      simp only [VR] at hv
      obtain ⟨p, hp, rfl⟩ := hv
      obtain ⟨b1, b2, xs, h1, h2⟩ := hr.g.br b _ p hb hp
      refine ⟨_, _, _, ?_, fin (it := .mapIter (some p.blk) clock #[] clock) fun q k1 k2 k3 => ⟨k1, k2, p, upd_mono (hr.dom _ (Nat.le_refl _)) _ _ hp, by rw [k3]; exact (Alloc.alloc _ _).new⟩⟩
      unfold Instr.range
      simp [run_underlying ht, run_getMap h1]

end
end Go.Proofs.Sh

namespace Go.Proofs.Sh
open Go Go.RowKit

/-! ### Going over maps -/

section
variable {P : Program} {m : Nat} {μ : LMap} {H H' : DH} {W : World} {F : DF} {a : Act} {nt : Nat}

theorem EntsR.filter (p : Nat → Bool) : ∀ {es : List Ent} {xs : List MapEntry}, EntsR μ es xs → EntsR μ (es.filter fun e => p e.born) (xs.filter fun x => p x.born)
  | [], [], _ => by simp [EntsR]
  | e :: es, x :: xs, h => by
    simp only [EntsR] at h
    have ih := EntsR.filter p h.2.2.2
    simp only [List.filter_cons]
    rw [← h.2.2.1]
    split
    · simp only [EntsR]; exact ⟨h.1, h.2.1, h.2.2.1, ih⟩
    · exact ih
  | [], _ :: _, h => by simp only [EntsR] at h
  | _ :: _, [], h => by simp only [EntsR] at h

theorem EntsR.all (p : Nat → Bool) : ∀ {es : List Ent} {xs : List MapEntry}, EntsR μ es xs → (es.all fun e => p e.born) = (xs.all fun x => p x.born)
  | [], [], _ => rfl
  | e :: es, x :: xs, h => by
    simp only [EntsR] at h
    simp only [List.all_cons, h.2.2.1, EntsR.all p h.2.2.2]
  | [], _ :: _, h => by simp only [EntsR] at h
  | _ :: _, [], h => by simp only [EntsR] at h

theorem EntsR.find (p : Nat → Bool) : ∀ {es : List Ent} {xs : List MapEntry}, EntsR μ es xs → ∀ {e : Ent}, (es.find? fun e => p e.born) = some e → ∃ x, (xs.find? fun x => p x.born) = some x ∧ VR μ e.k x.key ∧ VR μ e.v x.val
  | [], [], _, e, h => by simp at h
  | e :: es, x :: xs, h, y, hy => by
    simp only [EntsR] at h
    simp only [List.find?_cons] at hy ⊢
    rw [← h.2.2.1]
    split at hy
    · injection hy with hy; subst hy
      exact ⟨x, rfl, h.1, h.2.1⟩
    · exact EntsR.find p h.2.2.2 hy
  | [], _ :: _, h, _, _ => by simp only [EntsR] at h
  | _ :: _, [], h, _, _ => by simp only [EntsR] at h

theorem op_ent (hr : Rel m μ H W) {r b since stepped clock s : Nat} {seen : List Nat} {es : List Ent} {e : Ent} (hi : H[r]? = some (.iter (some b) since seen stepped)) (hb : H[b]? = some (.map es clock)) (hc : clock = stepped) (hs : seen.getLast? = some s)
    (hf : (es.find? fun e => e.born == s) = some e) {x : Value} (hx : VR μ (.ptr r 0) x) : ∃ u, (Instr.entry x).run P W = .ok u W ∧ VR μ (.tup [e.k, e.v]) u := by
  simp only [VR] at hx
  obtain ⟨p, hp, rfl⟩ := hx
  obtain ⟨i1, i2, q, hq, i3⟩ := hr.g.br r _ p hi hp
  obtain ⟨b1, b2, xs, h1, h2⟩ := hr.g.br b _ q hb hq
  obtain ⟨y, hy, hk, hv⟩ := h2.find (fun n => n == s) hf
  refine ⟨.tuple #[y.key, y.val], ?_, by simp only [VR]; exact ⟨_, rfl, by simp only [VRs]; exact ⟨hk, hv, trivial⟩⟩⟩
  rw [i1]
  unfold Instr.entry
  have hback : seen.toArray.back? = some s := by simpa using hs
  have hfind : xs.find? (fun x => x.born == s) = some y := by rw [← Array.find?_toList]; exact hy
  simp only [Nat.zero_add, Sem.run_bind, run_getIter i3, Result.andThen_ok, hback, run_getMap h1, hc]
  simp [hfind]

theorem op_nxt (hr : Rel m μ H W) {r : Nat} {o : Option Nat} {since last : Nat} {seen : List Nat} (hi : H[r]? = some (.iter o since seen last)) {x : Value} (hx : VR μ (.ptr r 0) x) {ty : Nat} {w : DV}
    (h : (match o with
      | none => some (DV.tup [.bool false], H)
      | some b => (match H[b]? with
        | some (.map es clock) =>
          if !seen.isEmpty && !es.isEmpty && es.all (fun e => decide (last ≤ e.born)) then none else
          (match es.filter fun e => !seen.contains e.born with
          | [] => some (.tup [.bool false], H)
          | [e] => if e.born < since then (match H.setAt m r (.iter (some b) since (seen ++ [e.born]) clock) with
            | some H' => some (.tup [.bool true, e.k, e.v], H')
            | none => none) else none
          | _ => none)
        | _ => none)) = some (w, H')) :
    ∃ u W', (Instr.next x false ty).run P W = .ok u W' ∧ Out m μ H W w H' μ u W' := by
  simp only [VR] at hx
  obtain ⟨p, hp, rfl⟩ := hx
  have hover : VR μ (.tup [.bool false]) (.tuple #[.bool false]) := by simp only [VR]; exact ⟨_, rfl, by simp only [VRs, VR]; trivial⟩
  cases o with
  | none =>
    simp only at h
    injection h with h; injection h with e1 e2; subst e1 e2
    obtain ⟨i1, i2, i3⟩ := hr.g.br r _ p hi hp
    refine ⟨_, W, ?_, Out.same hr hover⟩
    rw [i1]
    unfold Instr.next
    simp [run_getIter i3]
  | some b =>
    simp only at h
    obtain ⟨i1, i2, q, hq, i3⟩ := hr.g.br r _ p hi hp
    split at h
    case h_2 => cases h
    case h_1 es clock hb =>
      obtain ⟨b1, b2, xs, h1, h2⟩ := hr.g.br b _ q hb hq
      split at h
      case isTrue => cases h
      case isFalse hcond =>
        have hlen := h2.len
        have hcond' : (!seen.toArray.isEmpty && !xs.isEmpty && xs.all (fun x => decide (x.born ≥ last))) = false := by
          have e1 : seen.toArray.isEmpty = seen.isEmpty := by cases seen <;> rfl
          have e2 : xs.isEmpty = es.isEmpty := by
            rw [← Array.toArray_toList (xs := xs)]
            cases es <;> cases hxl : xs.toList <;> simp_all
          have e3 : xs.all (fun x => decide (x.born ≥ last)) = es.all (fun e => decide (last ≤ e.born)) := by
            rw [← Array.all_toList]
            exact (h2.all (fun n => decide (last ≤ n))).symm
          rw [e1, e2, e3]
          simpa using hcond
        have hfil := h2.filter (fun n => !seen.contains n)
        have hxf : (xs.filter fun e => !seen.toArray.contains e.born).toList = xs.toList.filter (fun x => !seen.contains x.born) := by
          simp
        split at h
        · rename_i hnil
          injection h with h; injection h with e1 e2; subst e1 e2
          rw [hnil] at hfil
          have hx0 : (xs.filter fun e => !seen.toArray.contains e.born) = #[] := by
            cases hxl : xs.toList.filter (fun x => !seen.contains x.born) with
            | nil => rw [← Array.toArray_toList (xs := Array.filter _ xs), hxf, hxl]
            | cons y l => rw [hxl] at hfil; simp only [EntsR] at hfil
          refine ⟨_, W, ?_, Out.same hr hover⟩
          rw [i1]
          unfold Instr.next
          simp only [Nat.zero_add, Sem.run_bind, run_getIter i3, Result.andThen_ok, run_getMap h1, hcond', Bool.false_eq_true, if_false, hx0]
          simp [choose, Sem.run, Question.forced]
        · rename_i e hone
          split at h
          case isFalse => cases h
          case isTrue hsince =>
            split at h
            case h_2 => cases h
            case h_1 H2 hset =>
              injection h with h; injection h with e1 e2; subst e1 e2
              obtain ⟨hm, rfl⟩ := setAt_some hset
              rw [hone] at hfil
              obtain ⟨y, hx1, hk, hv, hborn⟩ : ∃ y, xs.toList.filter (fun x => !seen.contains x.born) = [y] ∧ VR μ e.k y.key ∧ VR μ e.v y.val ∧ e.born = y.born := by
                cases hxl : xs.toList.filter (fun x => !seen.contains x.born) with
                | nil => rw [hxl] at hfil; simp only [EntsR] at hfil
                | cons y l =>
                  rw [hxl] at hfil
                  cases l with
                  | nil => simp only [EntsR, and_true] at hfil; exact ⟨y, rfl, hfil⟩
                  | cons _ _ => simp only [EntsR, and_false] at hfil
              have hxa : (xs.filter fun e => !seen.toArray.contains e.born) = #[y] := by
                rw [← Array.toArray_toList (xs := Array.filter _ xs), hxf, hx1]
              have hys : y.born < since := by rw [← hborn]; exact hsince
              refine ⟨.tuple #[.bool true, y.key, y.val], _, ?_, Out.setObj (o' := .mapIter (some q.blk) since (seen.toArray.push y.born) clock) hr hm hi (by simp) hp i3 i2 ?_ ?_⟩
              · rw [i1]
                unfold Instr.next
                simp only [Nat.zero_add, Sem.run_bind, run_getIter i3, Result.andThen_ok, run_getMap h1, hcond', Bool.false_eq_true, if_false, hxa]
                have e1 : (#[y] : Array MapEntry).filter (fun x => decide (x.born < since)) = #[y] := by simp [hys]
                have e2 : (#[y] : Array MapEntry).filter (fun x => decide (x.born ≥ since)) = #[] := by simp; omega
                simp only [e1, e2]
                simp [choose, Sem.run, Question.forced, run_setIter i3]
              · refine ⟨i1, i2, q, hq, ?_⟩
                rw [(heap_set i3).1, hborn]
                simp
              · simp only [VR]; exact ⟨_, rfl, by simp only [VRs, VR]; exact ⟨trivial, hk, hv, trivial⟩⟩
        · cases h

theorem op_lenm (hr : Rel m μ H W) {t kt et : Nat} (ht : P.underlying t = some (.map kt et)) {ts : Array Nat} (hts : ts[0]? = some t) {x : DV} {es : List Ent} (h : mapAt H x = some es) {v : Value} (hv : VR μ x v) {ty : Nat} :
    (Builtin.len_ ts ty #[v]).run P W = .ok (.int .i64 es.length) W := by
  unfold Builtin.len_
  rcases mapAt_run hr h hv with ⟨rfl, rfl⟩ | ⟨r, xs, clock, rfl, h1, h2⟩
  · simp [hts, run_underlying ht, goInt]
  · have := h2.len
    simp only [Array.length_toList] at this
    simp [hts, run_underlying ht, run_getMap h1, goInt, this]

end
end Go.Proofs.Sh

