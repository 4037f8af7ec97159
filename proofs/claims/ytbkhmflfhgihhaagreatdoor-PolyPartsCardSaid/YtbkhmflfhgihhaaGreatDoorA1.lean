/- The abstract machine: values, stores, operations. -/
import Derived.Calls
import Derived.Defers
import Derived.Recover
import Derived.Orders
import Derived.KernelRfl
import Derived.Laws.Sem
import Derived.Laws.World
import Derived.Laws.Strings
set_option linter.all false

namespace Go.AM

/-- Abstract values. -/
inductive AV where
  | top
  | int (k : IntKind) (n : Int)
  | bool (b : Bool)
  | str (s : List UInt8)
  | np
  | ptr (b g off : Nat)
  | fptr (cells : List AV)
  | nsl
  | esl
  | sl (b g off sz len : Nat) (cap : Option Nat)
  | fsl (cells : List AV) (len : Nat)
  | nmap
  | map (b g : Nat)
  | fn (f : Nat) (first caps : List AV)
  | nfn
  | iface (t : Nat) (v : AV)
  | nif
  | agg (cells : List AV)
  | tup (vs : List AV)
  deriving Inhabited

def AV.parts : AV → List AV
  | .agg cs => cs
  | v => [v]

/-- A value whose cells are known. -/
def AV.solid : AV → Bool
  | .top | .tup _ => false
  | _ => true

/-- Boxes of the abstract store. -/
inductive Box where
  | cells (cs : List AV) (ty gen : Nat) (slack : Bool)
  | map (es : List (AV × AV × Nat)) (clock gen : Nat)
  | miter (m : Option (Nat × Nat)) (since : Nat) (seen : List Nat) (last : Nat)
  | siter (s : List UInt8) (pos : Nat)
  | dead (gen : Nat)
  deriving Inhabited

abbrev Store := List Box
abbrev Env := List (Nat × AV)

def Env.get : Env → Nat → AV
  | [], _ => .top
  | (j, v) :: r, i => if i = j then v else Env.get r i

/-- Operands. -/
inductive Opd where
  | t (i : Nat)
  | c (v : AV)
  | g (n : Nat)
  deriving Inhabited

/-- What the package-level variables hold. -/
abbrev Globs := Nat → Option (List AV)

def Opd.ev (G : Globs) (e : Env) : Opd → AV
  | .t i => e.get i
  | .c v => v
  | .g n => match G n with
    | some cells => .fptr cells
    | none => .top

/-- How keys of a map are compared. -/
inductive KK where
  | int | str | ints (n : Nat)
  deriving DecidableEq, Inhabited

/-- Operations, types resolved. -/
inductive COp where
  | mov (x : Opd)
  | pick (c a b : Opd)
  | bin (op : BinOp) (x y : Opd)
  | beq (neg : Bool) (x y : Opd)
  | nilq (neg : Bool) (k : Nat) (x : Opd)
  | peq (neg : Bool) (x y : Opd)
  | un (op : UnOp) (x : Opd)
  | conv (k : IntKind) (x : Opd)
  | cvs (x : Opd)
  | u2p (u n : Nat) (x : Opd)
  | p2u (x : Opd)
  | s2b (ty : Nat) (x : Opd)
  | b2s (x : Opd)
  | field (off n : Nat) (agg : Bool) (x : Opd)
  | idxA (len sz : Nat) (agg : Bool) (x i : Opd)
  | idxS (x i : Opd)
  | extr (x : Opd) (i : Nat)
  | build (zero : List AV) (parts : List (Nat × Nat × Opd))
  | nilck (x : Opd)
  | mkif (t : Nat) (x : Opd)
  | mkfn (f : Nat) (first caps : List Opd)
  | tass (t : Nat) (zero : AV) (ok : Bool) (x : Opd)
  | faddr (off : Nat) (x : Opd)
  | iaddr (sz : Nat) (x i : Opd)
  | iaddrA (len sz : Nat) (x i : Opd)
  | alloc (ty : Nat) (zero : List AV)
  | box (ty : Nat) (x : Opd)
  | bslice (ty sz len : Nat) (zero : List AV) (parts : List (Nat × Opd))
  | mslice (ty sz bytes : Nat) (zero : List AV) (l c : Opd)
  | mmap
  | load (n : Nat) (agg : Bool) (x : Opd)
  | store (n : Nat) (x v : Opd)
  | slS (sz : Nat) (x : Opd) (lo hi mx : Option Opd)
  | slStr (x : Opd) (lo hi : Option Opd)
  | slP (alen sz : Nat) (x : Opd) (lo hi : Option Opd)
  | look (kk : KK) (zero : AV) (ok : Bool) (m k : Opd)
  | mupd (kk : KK) (m k v : Opd)
  | ment (kk : KK) (zero : AV) (m k : Opd)
  | estore (m s v : Opd)
  | rng (isStr : Bool) (x : Opd)
  | nxt (isStr : Bool) (x : Opd)
  | entry (x : Opd)
  | len (k : Nat) (x : Opd)
  | alen (n : Nat)
  | cap (x : Opd)
  | app (ty sz bytes : Nat) (zero : List AV) (isStr : Bool) (s x : Opd)
  | copy (sz : Nat) (isStr : Bool) (d s : Opd)
  | del (kk : KK) (m k : Opd)
  | max2 (x y : Opd)
  | min2 (x y : Opd)
  | usd (x : Opd)
  | ustr (ty : Nat) (p n : Opd)
  | same (x : Opd)
  | noz (ty : Nat) (x : Opd)
  | idxB (s c : Opd)
  | cntB (s c : Opd)
  | call (f : Nat) (args : List Opd)
  | pcall (f : Nat) (args : List Opd)
  | kcall (f : Nat) (args : List Opd)
  | bad
  | callV (x : Opd) (args : List Opd)
  | pan (x : Opd)
  | recov
  | defer (x : Opd) (args : List Opd)
  deriving Inhabited

/-- An operation with its destination and its guard (the slot of the guarding value). -/
structure CI where
  dst : Option Nat
  op : COp
  guard : Option (Nat × Bool)
  deriving Inhabited

/-- Regions: the orders of their operations. -/
inductive RT where
  | done
  | op (i : CI) (r : RT)
  | alt (a b : RT)
  deriving Inhabited

/-- Code. -/
inductive CC where
  | skip
  | reg (t : RT) (keep : List Nat) (gc : Bool)
  | seq (a b : CC)
  | cond (x : Opd) (a b : CC)
  | block (id : Nat) (b : CC)
  | loop (b : CC)
  | exit (id : Nat)
  | ret
  | scope (b : CC)
  | label (l : Nat)
  | stop
  deriving Inhabited

structure St where
  env : Env
  S : Store
  D : List (Nat × List AV)

/-- How code ends. -/
inductive Ex where
  | normal
  | exit (id : Nat)
  | ret
  | panic (v : AV)

/-- How a call ends. -/
inductive FE where
  | ret (v : AV)
  | panic (v : AV)

abbrev K := Ex → St → Prop
abbrev FK := FE → Store → Prop
/-- What the machine is told of the program: its variables, its functions' calls, and those of them that leave the store alone. -/
structure Cx where
  G : Nat → Option (List AV)
  Fn : Nat → List AV → Store → FK → Prop
  PF : Nat → List AV → FE → Prop

def Env.prune (e : Env) : List Nat → Env
  | [] => []
  | i :: r => (i, e.get i) :: Env.prune e r

def Env.set (e : Env) : Option Nat → AV → Env
  | none, _ => e
  | some d, v => (d, v) :: e

/- ---------------- operations ---------------- -/

def binInt (op : BinOp) (k : IntKind) (a b : Int) : Option AV :=
  match op with
  | .add => some (.int k (k.wrap (a + b)))
  | .sub => some (.int k (k.wrap (a - b)))
  | .mul => some (.int k (k.wrap (a * b)))
  | .quo => if b = 0 then none else some (.int k (k.wrap (a.tdiv b)))
  | .rem => if b = 0 then none else some (.int k (a.tmod b))
  | .and => some (.int k (k.wrap ((BitVec.ofInt k.bits a &&& BitVec.ofInt k.bits b).toNat)))
  | .or => some (.int k (k.wrap ((BitVec.ofInt k.bits a ||| BitVec.ofInt k.bits b).toNat)))
  | .xor => some (.int k (k.wrap ((BitVec.ofInt k.bits a ^^^ BitVec.ofInt k.bits b).toNat)))
  | .andNot => some (.int k (k.wrap ((BitVec.ofInt k.bits a &&& ~~~BitVec.ofInt k.bits b).toNat)))
  | .eql => some (.bool (a == b))
  | .neq => some (.bool (a != b))
  | .lss => some (.bool (decide (a < b)))
  | .leq => some (.bool (decide (a ≤ b)))
  | .gtr => some (.bool (decide (a > b)))
  | .geq => some (.bool (decide (a ≥ b)))
  | .shl | .shr => none

def isNil : Nat → AV → Option Bool
  | 0, .np => some true
  | 0, .ptr .. => some false
  | 0, .fptr _ => some false
  | 1, .nsl => some true
  | 1, .sl .. => some false
  | 1, .fsl (_ :: _) _ => some false
  | 2, .nmap => some true
  | 2, .map .. => some false
  | 3, .nfn => some true
  | 3, .fn .. => some false
  | 4, .nif => some true
  | 4, .iface .. => some false
  | _, _ => none

def binStr (op : BinOp) (a b : List UInt8) : Option AV :=
  match op with
  | .add => if a.length + b.length < 1099511627776 then some (.str (a ++ b)) else none
  | .eql => some (.bool (a == b))
  | .neq => some (.bool (!(a == b)))
  | .lss => some (.bool (Op.bytesLess a b))
  | .geq => some (.bool (!(Op.bytesLess a b)))
  | .leq => some (.bool (Op.bytesLess a b || a == b))
  | .gtr => some (.bool (!(Op.bytesLess a b || a == b)))
  | _ => none

def binV (op : BinOp) (x y : AV) : Option AV :=
  match x, y with
  | .int k a, .int j b =>
    match op with
    | .shl => if b < 0 then none else some (.int k (k.wrap (a * 2 ^ (min b.toNat k.bits))))
    | .shr => if b < 0 then none else some (.int k (a.fdiv (2 ^ (min b.toNat k.bits))))
    | op => if k = j then binInt op k a b else none
  | .str a, .str b => binStr op a b
  | _, _ => none

def unV (op : UnOp) (x : AV) : Option AV :=
  match op, x with
  | .neg, .int k n => some (.int k (k.wrap (0 - n)))
  | .xor, .int k n => some (.int k (k.wrap ((BitVec.ofInt k.bits (if k.signed then -1 else k.max) ^^^ BitVec.ofInt k.bits n).toNat)))
  | .not, .bool b => some (.bool (!b))
  | _, _ => none

/-- A run of cells as a value. -/
def cut (cs : List AV) (off n : Nat) (agg : Bool) : Option AV :=
  if agg then (if off + n ≤ cs.length then some (.agg ((cs.drop off).take n)) else none)
  else cs[off]?

def boxRd (S : Store) (b g : Nat) : Option (List AV) :=
  match S[b]? with
  | some (.cells cs _ gen _) => if g = gen then some cs else none
  | _ => none

def wrl : List AV → Nat → List AV → List AV
  | cs, _, [] => cs
  | cs, off, v :: vs => wrl (cs.set off v) (off + 1) vs

def boxWr (S : Store) (b g off : Nat) (vs : List AV) : Option Store :=
  match S[b]? with
  | some (.cells cs ty gen sk) => if g = gen ∧ off + vs.length ≤ cs.length then some (S.set b (.cells (wrl cs off vs) ty gen sk)) else none
  | _ => none

/-- The first n cells of a slice's row. -/
def slRd (S : Store) (n : Nat) : AV → Option (List AV)
  | .nsl => if n = 0 then some [] else none
  | .esl => if n = 0 then some [] else none
  | .fsl cells _ => if n ≤ cells.length then some (cells.take n) else none
  | .sl b g off _ _ _ => match boxRd S b g with
    | some cs => if off + n ≤ cs.length then some ((cs.drop off).take n) else none
    | none => none
  | _ => none

def slLen : AV → Option Nat
  | .nsl => some 0
  | .esl => some 0
  | .fsl _ n => some n
  | .sl _ _ _ _ n _ => some n
  | _ => none

def fillP (cells : List AV) : List (Nat × Nat × AV) → Option (List AV)
  | [] => some cells
  | (off, n, v) :: r => if v.solid ∧ v.parts.length = n ∧ off + n ≤ cells.length then fillP (wrl cells off v.parts) r else none

def natOf : AV → Option Nat
  | .int _ n => if 0 ≤ n then some n.toNat else none
  | _ => none

def u8s (l : List UInt8) : List AV := l.map fun c => .int .u8 c.toNat

def unU8 : List AV → Option (List UInt8)
  | [] => some []
  | .int .u8 n :: r => (unU8 r).map (UInt8.ofNat n.toNat :: ·)
  | _ => none

def i64s : AV → Bool
  | .int .i64 _ => true
  | _ => false

/-- A value that may be a key. -/
def keyOK : KK → AV → Bool
  | .int, .int _ _ => true
  | .str, .str _ => true
  | .ints n, .agg cs => cs.length == n && cs.all i64s
  | _, _ => false

def eqInts : List AV → List AV → Option Bool
  | [], [] => some true
  | .int .i64 m :: r, .int .i64 n :: s => match eqInts r s with
    | some t => some (m == n && t)
    | none => none
  | _, _ => none

def keyEq (kk : KK) (a b : AV) : Option Bool :=
  match kk, a, b with
  | .int, .int k m, .int j n => if k = j then some (m == n) else none
  | .str, .str s, .str t => some (s == t)
  | .ints _, .agg cs, .agg ds => eqInts cs ds
  | _, _, _ => none

def keyFind (kk : KK) (k : AV) : List (AV × AV × Nat) → Nat → Option (Option (Nat × AV))
  | [], _ => some none
  | (k', v, _) :: r, i => match keyEq kk k k' with
    | some true => some (some (i, v))
    | some false => keyFind kk k r (i + 1)
    | none => none

def mapRd (S : Store) : AV → Option (List (AV × AV × Nat) × Nat)
  | .map b g => match S[b]? with
    | some (.map es clock gen) => if g = gen then some (es, clock) else none
    | _ => none
  | _ => none

def faddrV (off : Nat) : AV → Option AV
  | .ptr b g o => some (.ptr b g (o + off))
  | .fptr cells => if off ≤ cells.length then some (.fptr (cells.drop off)) else none
  | _ => none

def iaddrV (sz i : Nat) : AV → Option AV
  | .sl b g off _ ln _ => if i < ln then some (.ptr b g (off + i * sz)) else none
  | .fsl cells ln => if i < ln ∧ i * sz < cells.length then some (.fptr (cells.drop (i * sz))) else none
  | _ => none

def iaddrAV (ln sz i : Nat) : AV → Option AV
  | .ptr b g off => if i < ln then some (.ptr b g (off + i * sz)) else none
  | .fptr cells => if i < ln ∧ i * sz ≤ cells.length then some (.fptr (cells.drop (i * sz))) else none
  | _ => none

def loadV (S : Store) (n : Nat) (agg : Bool) : AV → Option AV
  | .ptr b g off => match boxRd S b g with
    | some cs => cut cs off n agg
    | none => none
  | .fptr cells => cut cells 0 n agg
  | _ => none

def bnd (o : Option AV) (d : Nat) : Option Nat :=
  match o with
  | none => some d
  | some v => natOf v

/-- A slice of a slice. -/
def slV (sz : Nat) (v : AV) (lo hi mx : Option AV) : Option AV :=
  match v with
  | .nsl => match bnd lo 0, bnd hi 0, bnd mx 0 with
    | some 0, some 0, some 0 => some .nsl
    | _, _, _ => none
  | .esl => match bnd lo 0, bnd hi 0, bnd mx 0 with
    | some 0, some 0, some 0 => some .esl
    | _, _, _ => none
  | .fsl cells ln => match bnd lo 0, bnd hi ln, bnd mx ln with
    | some l, some h, some m => if l ≤ h ∧ h ≤ m ∧ m ≤ ln ∧ h * sz ≤ cells.length then
        some (if mx.isSome ∧ m = l then .esl else .fsl ((cells.take (h * sz)).drop (l * sz)) (h - l)) else none
    | _, _, _ => none
  | .sl b g off sz' ln cp => if sz' = sz then
      match bnd lo 0, bnd hi ln with
      | some l, some h => match mx, cp with
        | some m, cp => match natOf m with
          | some m => if l ≤ h ∧ h ≤ m ∧ m ≤ cp.getD ln then
              some (if m = l then .esl else .sl b g (off + l * sz) sz (h - l) (some (m - l))) else none
          | none => none
        | none, some c => if l ≤ h ∧ h ≤ c then some (if c = l then .esl else .sl b g (off + l * sz) sz (h - l) (some (c - l))) else none
        | none, none => if l ≤ h ∧ h ≤ ln ∧ l < ln then some (.sl b g (off + l * sz) sz (h - l) none) else none
      | _, _ => none
    else none
  | _ => none

def slStrV (v : AV) (lo hi : Option AV) : Option AV :=
  match v with
  | .str s => match bnd lo 0, bnd hi s.length with
    | some l, some h => if l ≤ h ∧ h ≤ s.length then some (.str ((s.take h).drop l)) else none
    | _, _ => none
  | _ => none

/-- A slice of an array. -/
def slPV (al sz : Nat) (v : AV) (lo hi : Option AV) : Option AV :=
  match v with
  | .ptr b g off => match bnd lo 0, bnd hi al with
    | some l, some h => if l ≤ h ∧ h ≤ al ∧ l < al then some (.sl b g (off + l * sz) sz (h - l) (some (al - l))) else none
    | _, _ => none
  | _ => none

/-- A great bound: what is longer is not spoken of. -/
def big : Nat := 1099511627776

def lookEs (S : Store) : AV → Option (List (AV × AV × Nat))
  | .nmap => some []
  | .map b g => (mapRd S (.map b g)).map (·.1)
  | _ => none

def lookV (S : Store) (kk : KK) (zero : AV) (ok : Bool) (m k : AV) : Option AV :=
  if keyOK kk k then match lookEs S m with
    | some es => match keyFind kk k es 0 with
      | some (some p) => some (if ok then .tup [p.2, .bool true] else p.2)
      | some none => some (if ok then .tup [zero, .bool false] else zero)
      | none => none
    | none => none
  else none

def mupdV (S : Store) (kk : KK) (m k v : AV) : Option Store :=
  if keyOK kk k then match m with
    | .map b g => match mapRd S (.map b g) with
      | some (es, clock) => match keyFind kk k es 0 with
        | some (some p) => some (S.set b (.map (es.modify p.1 fun x => (k, v, x.2.2)) clock g))
        | some none => some (S.set b (.map (es ++ [(k, v, clock)]) (clock + 1) g))
        | none => none
      | none => none
    | _ => none
  else none

def delV (S : Store) (kk : KK) (m k : AV) : Option Store :=
  if keyOK kk k then match m with
    | .map b g => match mapRd S (.map b g) with
      | some (es, clock) => match keyFind kk k es 0 with
        | some (some p) => some (S.set b (.map (es.eraseIdx p.1) clock g))
        | some none => some S
        | none => none
      | none => none
    | _ => none
  else none

/-- What is appended, or copied. -/
def srcOf (S : Store) (sz : Nat) (isStr : Bool) (v : AV) : Option (Nat × List AV) :=
  match isStr, v with
  | true, .str t => some (t.length, u8s t)
  | false, v => match slLen v with
    | some n => (slRd S (n * sz) v).map (n, ·)
    | none => none
  | _, _ => none

def appNew (S : Store) (ty sz bytes n : Nat) (new : List AV) : Option (AV × Store) :=
  if n * bytes ≤ big ∧ n ≤ big then some (.sl S.length 0 0 sz n none, S ++ [.cells new ty 0 true]) else none

/-- append. -/
def appV (S : Store) (ty sz bytes n : Nat) (new : List AV) (s : AV) : Option (AV × Store) :=
  match s with
  | .nsl => if n = 0 then some (.nsl, S) else appNew S ty sz bytes n new
  | .esl => if n = 0 then some (.esl, S) else appNew S ty sz bytes n new
  | .sl b g off sz' ln cp => if sz' = sz then match S[b]? with
    | some (.cells cs ty' gen sk) =>
      if g = gen ∧ off + ln * sz ≤ cs.length ∧ (ln + n) * bytes ≤ big ∧ ln + n ≤ big then
        if n = 0 then some (.sl b g off sz ln cp, S)
        else match cp with
        | none => if ty' = ty then
            some (.sl b (gen + 1) 0 sz (ln + n) none, S.set b (.cells ((cs.drop off).take (ln * sz) ++ new) ty (gen + 1) true)) else none
        | some c => if ln + n ≤ c then
            (match boxWr S b g (off + ln * sz) new with
            | some S' => some (.sl b g off sz (ln + n) cp, S')
            | none => none)
          else some (.sl S.length 0 0 sz (ln + n) none, S ++ [.cells ((cs.drop off).take (ln * sz) ++ new) ty 0 true])
      else none
    | _ => none
    else none
  | _ => none

/-- copy. -/
def copyV (S : Store) (sz : Nat) (isStr : Bool) (d s : AV) : Option (AV × Store) :=
  match slLen d with
  | none => none
  | some dl =>
    let src : Option (Nat × List AV) := match isStr, s with
      | true, .str t => some (min t.length dl, u8s (t.take (min t.length dl)))
      | false, v => match slLen v with
        | some n => (slRd S (min n dl * sz) v).map (min n dl, ·)
        | none => none
      | _, _ => none
    match src with
    | none => none
    | some (n, cs) => match d with
      | .sl b g off _ _ _ => (boxWr S b g off cs).map (.int .i64 n, ·)
      | .nsl => some (.int .i64 0, S)
      | .esl => some (.int .i64 0, S)
      | _ => none

/-- What an operation gives: a value and the store. -/
def COp.ev (G : Globs) (e : Env) (S : Store) : COp → Option (AV × Store)
  | .mov x => some (x.ev G e, S)
  | .pick c a b => match c.ev G e with
    | .bool t => some (if t then a.ev G e else b.ev G e, S)
    | _ => none
  | .bin op x y => (binV op (x.ev G e) (y.ev G e)).map (·, S)
  | .beq neg x y => match x.ev G e, y.ev G e with
    | .bool a, .bool b => some (.bool (if neg then !(a == b) else a == b), S)
    | _, _ => none
  | .peq neg x y => match x.ev G e, y.ev G e with
    | .np, .np => some (.bool (!neg), S)
    | .np, .ptr .. => some (.bool neg, S)
    | .ptr .., .np => some (.bool neg, S)
    | .ptr b g o, .ptr b' g' o' => if b = b' ∧ g = g' ∧ (boxRd S b g).isSome then some (.bool (if neg then !(o == o') else o == o'), S) else none
    | _, _ => none
  | .nilq neg k x => (isNil k (x.ev G e)).map fun b => (.bool (if neg then !b else b), S)
  | .un op x => (unV op (x.ev G e)).map (·, S)
  | .conv k x => match x.ev G e with
    | .int _ n => some (.int k (k.wrap n), S)
    | _ => none
  | .cvs x => match x.ev G e with
    | .str s => some (.str s, S)
    | _ => none
  | .p2u x => match x.ev G e with
    | .np => some (.np, S)
    | .ptr b g off => match boxRd S b g with
      | some cs => if off < cs.length then some (.ptr b g off, S) else none
      | none => none
    | _ => none
  | .u2p u n x => match x.ev G e with
    | .np => some (.np, S)
    | .ptr b g 0 => match S[b]? with
      | some (.cells cs ty gen false) => if g = gen ∧ ty = u ∧ n + 1 ≤ cs.length then some (.ptr b g 0, S) else none
      | _ => none
    | _ => none
  | .s2b ty x => match x.ev G e with
    | .str s => some (.sl S.length 0 0 1 s.length none, S ++ [.cells (u8s s) ty 0 true])
    | _ => none
  | .b2s x => match slLen (x.ev G e) with
    | some n => match (slRd S n (x.ev G e)).bind unU8 with
      | some s => some (.str s, S)
      | none => none
    | none => none
  | .field off n agg x => match x.ev G e with
    | .agg cs => (cut cs off n agg).map (·, S)
    | _ => none
  | .idxA ln sz agg x i => match x.ev G e, natOf (i.ev G e) with
    | .agg cs, some i => if i < ln then (cut cs (i * sz) sz agg).map (·, S) else none
    | _, _ => none
  | .idxS x i => match x.ev G e, natOf (i.ev G e) with
    | .str s, some i => match s[i]? with
      | some c => some (.int .u8 c.toNat, S)
      | none => none
    | _, _ => none
  | .extr x i => match x.ev G e with
    | .tup vs => (vs[i]?).map (·, S)
    | _ => none
  | .build zero parts => (fillP zero (parts.map fun p => (p.1, p.2.1, p.2.2.ev G e))).map (.agg ·, S)
  | .nilck x => match x.ev G e with
    | .ptr b g off => some (.ptr b g off, S)
    | .fptr cells => some (.fptr cells, S)
    | .fn f a b => some (.fn f a b, S)
    | _ => none
  | .mkif t x => some (.iface t (x.ev G e), S)
  | .mkfn f first caps => some (.fn f (first.map (·.ev G e)) (caps.map (·.ev G e)), S)
  | .tass t zero ok x => match x.ev G e with
    | .iface t' v => if t' = t then some (if ok then .tup [v, .bool true] else v, S)
      else if ok then some (.tup [zero, .bool false], S) else none
    | .nif => if ok then some (.tup [zero, .bool false], S) else none
    | _ => none
  | .faddr off x => (faddrV off (x.ev G e)).map (·, S)
  | .iaddr sz x i => match natOf (i.ev G e) with
    | some i => (iaddrV sz i (x.ev G e)).map (·, S)
    | none => none
  | .iaddrA ln sz x i => match natOf (i.ev G e) with
    | some i => (iaddrAV ln sz i (x.ev G e)).map (·, S)
    | none => none
  | .alloc ty zero => some (.ptr S.length 0 0, S ++ [.cells zero ty 0 false])
  | .box ty x => if (x.ev G e).solid then some (.ptr S.length 0 0, S ++ [.cells (x.ev G e).parts ty 0 false]) else none
  | .bslice ty sz ln zero parts => if ln = 0 then (match parts with | [] => some (.esl, S) | _ => none) else
    match fillP ((List.replicate ln zero).flatten) (parts.map fun p => (p.1 * sz, sz, p.2.ev G e)) with
    | some cs => some (.sl S.length 0 0 sz ln (some ln), S ++ [.cells cs ty 0 false])
    | none => none
  | .mslice ty sz bytes zero l c => match natOf (l.ev G e), natOf (c.ev G e) with
    | some l, some c => if l ≤ c ∧ c * bytes ≤ big ∧ c ≤ big then
        some (.sl S.length 0 0 sz l (some c), S ++ [.cells ((List.replicate c zero).flatten) ty 0 false]) else none
    | _, _ => none
  | .mmap => some (.map S.length 0, S ++ [.map [] 0 0])
  | .load n agg x => (loadV S n agg (x.ev G e)).map (·, S)
  | .store n x v => match x.ev G e with
    | .ptr b g off => if (v.ev G e).solid ∧ (v.ev G e).parts.length = n then (boxWr S b g off (v.ev G e).parts).map (.tup [], ·) else none
    | _ => none
  | .slS sz x lo hi mx => (slV sz (x.ev G e) (lo.map (·.ev G e)) (hi.map (·.ev G e)) (mx.map (·.ev G e))).map (·, S)
  | .slStr x lo hi => (slStrV (x.ev G e) (lo.map (·.ev G e)) (hi.map (·.ev G e))).map (·, S)
  | .slP al sz x lo hi => (slPV al sz (x.ev G e) (lo.map (·.ev G e)) (hi.map (·.ev G e))).map (·, S)
  | .look kk zero ok m k => (lookV S kk zero ok (m.ev G e) (k.ev G e)).map (·, S)
  | .mupd kk m k v => (mupdV S kk (m.ev G e) (k.ev G e) (v.ev G e)).map (.tup [], ·)
  | .ment _ _ _ _ => none
  | .estore _ _ _ => none
  | .rng isStr x => match isStr, x.ev G e with
    | true, .str s => some (.ptr S.length 0 0, S ++ [.siter s 0])
    | false, .nmap => some (.ptr S.length 0 0, S ++ [.miter none 0 [] 0])
    | false, .map b g => match mapRd S (.map b g) with
      | some (_, clock) => some (.ptr S.length 0 0, S ++ [.miter (some (b, g)) clock [] clock])
      | none => none
    | _, _ => none
  | .nxt isStr x => match isStr, x.ev G e with
    | true, .ptr b _ 0 => match S[b]? with
      | some (.siter s pos) => match s[pos]? with
        | some c => if c.toNat < 128 then some (.tup [.bool true, .int .i64 pos, .int .i32 c.toNat], S.set b (.siter s (pos + 1))) else none
        | none => if pos < s.length then none else some (.tup [.bool false], S)
      | _ => none
    | _, _ => none
  | .entry x => match x.ev G e with
    | .ptr b _ 0 => match S[b]? with
      | some (.miter (some (m, g)) _ seen last) => match mapRd S (.map m g), seen.head? with
        | some (es, clock), some stamp => if clock = last then
            match es.find? (fun x => x.2.2 == stamp) with
            | some (k, v, _) => some (.tup [k, v], S)
            | none => none
          else none
        | _, _ => none
      | _ => none
    | _ => none
  | .len k x => match k, x.ev G e with
    | 0, .str s => some (.int .i64 s.length, S)
    | 2, .nmap => some (.int .i64 0, S)
    | 2, .map b g => match mapRd S (.map b g) with
      | some (es, _) => some (.int .i64 es.length, S)
      | none => none
    | 1, v => match slLen v with
      | some n => some (.int .i64 n, S)
      | none => none
    | _, _ => none
  | .alen n => some (.int .i64 n, S)
  | .cap x => match x.ev G e with
    | .nsl => some (.int .i64 0, S)
    | .sl _ _ _ _ _ (some c) => some (.int .i64 c, S)
    | _ => none
  | .app ty sz bytes _zero isStr s x => match srcOf S sz isStr (x.ev G e) with
    | none => none
    | some (n, new) => appV S ty sz bytes n new (s.ev G e)
  | .copy sz isStr d s => copyV S sz isStr (d.ev G e) (s.ev G e)
  | .del kk m k => (delV S kk (m.ev G e) (k.ev G e)).map (.tup [], ·)
  | .max2 x y => match x.ev G e, y.ev G e with
    | .int k a, .int _ b => some (.int k (if b > a then b else a), S)
    | _, _ => none
  | .min2 x y => match x.ev G e, y.ev G e with
    | .int k a, .int _ b => some (.int k (if b < a then b else a), S)
    | _, _ => none
  | .usd x => match x.ev G e with
    | .nsl => some (.np, S)
    | .sl b g off _ ln _ => if 0 < ln then some (.ptr b g off, S) else none
    | _ => none
  | .ustr ty p n => match p.ev G e, natOf (n.ev G e) with
    | .np, some 0 => some (.str [], S)
    | .ptr _ _ _, some 0 => some (.str [], S)
    | .ptr b g off, some (n + 1) => match S[b]? with
      | some (.cells cs ty' gen _) => if g = gen ∧ off + (n + 1) ≤ cs.length ∧ ty' = ty ∧ n + 1 ≤ big then
          match unU8 ((cs.drop off).take (n + 1)) with
          | some s => some (.str s, S.set b (.dead (gen + 1)))
          | none => none
        else none
      | _ => none
    | _, _ => none
  | .same x => some (x.ev G e, S)
  | .noz ty x => match x.ev G e with
    | .int .i64 m => if 0 ≤ m ∧ m.toNat ≤ big then some (.sl S.length 0 0 1 m.toNat none, S ++ [.cells (List.replicate m.toNat .top) ty 0 true]) else none
    | _ => none
  | .idxB s c => match s.ev G e, c.ev G e with
    | .str s, .int .u8 c => match (List.range s.length).find? fun i => s[i]? == some (UInt8.ofNat c.toNat) with
      | some i => some (.int .i64 i, S)
      | none => some (.int .i64 (-1), S)
    | _, _ => none
  | .cntB s c => match s.ev G e, c.ev G e with
    | .str s, .int .u8 c => some (.int .i64 (s.count (UInt8.ofNat c.toNat)), S)
    | _, _ => none
  | .call _ _ | .pcall _ _ | .kcall _ _ | .callV _ _ | .pan _ | .recov | .defer _ _ | .bad => none

mutual
/-- No addresses of the store in it. -/
def AV.pure : AV → Bool
  | .ptr .. => false
  | .sl .. => false
  | .map .. => false
  | .fptr cells => pureL cells
  | .fsl cells _ => pureL cells
  | .fn _ a b => pureL a && pureL b
  | .iface _ v => v.pure
  | .agg cs => pureL cs
  | .tup cs => pureL cs
  | _ => true
def pureL : List AV → Bool
  | [] => true
  | v :: r => v.pure && pureL r
end

def FE.pure : FE → Bool
  | .ret v => v.pure
  | .panic v => v.pure

/-- The answers that a step of a range over a map may give. -/
def nextMap (S : Store) : AV → Option (List (AV × Store))
  | .ptr b _ 0 => match S[b]? with
    | some (.miter none _ _ _) => some [(.tup [.bool false], S)]
    | some (.miter (some (m, g)) since seen last) => match mapRd S (.map m g) with
      | some (es, clock) =>
        if clock = since ∧ last = since then
          match es.filter (fun x => !seen.contains x.2.2) with
          | [] => some [(.tup [.bool false], S)]
          | left => some (left.map fun x => (.tup [.bool true, x.1, x.2.1], S.set b (.miter (some (m, g)) since (x.2.2 :: seen) clock)))
        else none
      | none => none
    | _ => none
  | _ => none

def CI.on (i : CI) (e : Env) : Option Bool :=
  match i.guard with
  | none => some true
  | some (s, want) => match e.get s with
    | .bool b => some (b == want)
    | .tup [] => some false
    | _ => none

mutual
/-- Nothing lies behind it. -/
def AV.flat : AV → Bool
  | .ptr .. => false
  | .sl .. => false
  | .map .. => false
  | .fptr _ => false
  | .fsl cells _ => cells.isEmpty
  | .fn _ a b => flatL a && flatL b
  | .iface _ v => v.flat
  | .agg cs => flatL cs
  | .tup cs => flatL cs
  | _ => true
def flatL : List AV → Bool
  | [] => true
  | v :: r => v.flat && flatL r
end

def FE.flat : FE → Bool
  | .ret v => v.flat
  | .panic v => v.flat

/-- A value with what lies behind it, in the boxes that are asked for. -/
def frz (ok : Nat → Bool) : Nat → Store → AV → AV
  | 0, _, v => if v.pure then v else .top
  | n + 1, S, v => match v with
    | .ptr b g off => match boxRd S b g with
      | some cs => if ok b && decide (off ≤ cs.length) then .fptr ((cs.drop off).map (frz ok n S)) else .top
      | none => .top
    | .sl b g off sz len _ => match boxRd S b g with
      | some cs => if ok b && decide (off + len * sz ≤ cs.length) then .fsl (((cs.drop off).take (len * sz)).map (frz ok n S)) len else .top
      | none => .top
    | .fptr cells => .fptr (cells.map (frz ok n S))
    | .fsl cells len => .fsl (cells.map (frz ok n S)) len
    | .map _ _ => .top
    | .fn f a b => .fn f (a.map (frz ok n S)) (b.map (frz ok n S))
    | .iface t x => .iface t (frz ok n S x)
    | .agg cs => .agg (cs.map (frz ok n S))
    | .tup cs => .tup (cs.map (frz ok n S))
    | v => v

def yes : Nat → Bool := fun _ => true

def FE.frz (n : Nat) (S : Store) : FE → FE
  | .ret v => .ret (AM.frz yes n S v)
  | .panic v => .panic (AM.frz yes n S v)

mutual
/-- The boxes that it speaks of. -/
def refs : AV → List Nat
  | .ptr b _ _ => [b]
  | .sl b .. => [b]
  | .map b _ => [b]
  | .fptr cs => refsL cs
  | .fsl cs _ => refsL cs
  | .fn _ a b => refsL a ++ refsL b
  | .iface _ v => refs v
  | .agg cs => refsL cs
  | .tup cs => refsL cs
  | _ => []
def refsL : List AV → List Nat
  | [] => []
  | v :: r => refs v ++ refsL r
end

def boxRefs (S : Store) (b : Nat) : List Nat := match S[b]? with
  | some (.cells cs ..) => refsL cs
  | some (.map es ..) => refsL (es.map (·.1)) ++ refsL (es.map (·.2.1))
  | some (.miter (some (b, _)) ..) => [b]
  | _ => []

def reach (S : Store) : Nat → List Nat → List Nat → List Nat
  | 0, _, seen => seen
  | _, [], seen => seen
  | n + 1, b :: todo, seen => if seen.contains b then reach S n todo seen else reach S n (boxRefs S b ++ todo) (b :: seen)

def killGen (g : Nat) : Nat := if g < 1000000 then 1000000 else g + 1

def killed (ks : List Nat) : Nat → Store → Store
  | _, [] => []
  | i, .cells cs ty gen sk :: r => (if ks.contains i then .dead (killGen gen) else .cells cs ty gen sk) :: killed ks (i + 1) r
  | i, x :: r => x :: killed ks (i + 1) r

/-- What an operation does. -/
def COp.beh (X : Cx) (e : Env) (S : Store) (D : List (Nat × List AV)) (o : COp) (nx : AV → Store → List (Nat × List AV) → Prop) (pn : AV → Store → Prop) : Prop :=
  match o with
  | .call f args => X.Fn f (args.map (·.ev X.G e)) S fun
    | .ret v, S' => nx v S' D
    | .panic v, S' => pn v S'
  | .pcall f args => ∃ fe, ((pureL (args.map (·.ev X.G e)) = true ∧ X.PF f (args.map (·.ev X.G e)) fe ∧ fe.pure = true) ∨
      (X.PF f (args.map fun x => frz yes 40 S (x.ev X.G e)) fe ∧ fe.flat = true)) ∧ match fe with
    | .ret v => nx v S D
    | .panic v => pn v S
  | .kcall f args =>
    let ks := reach S 1000 (refsL (args.map (·.ev X.G e))) []
    ∃ fe, X.PF f (args.map fun x => frz ks.contains 40 S (x.ev X.G e)) fe ∧ fe.pure = true ∧ match fe with
    | .ret v => nx v (killed ks 0 S) D
    | .panic v => pn v (killed ks 0 S)
  | .callV x args => match x.ev X.G e with
    | .fn f first caps => X.Fn f (first ++ args.map (·.ev X.G e) ++ caps) S fun
      | .ret v, S' => nx v S' D
      | .panic v, S' => pn v S'
    | _ => False
  | .pan x => match x.ev X.G e with
    | .iface t v => pn (.iface t v) S
    | _ => False
  | .recov => False
  | .defer x args => match x.ev X.G e with
    | .fn f first caps => nx (.tup []) S ((f, first ++ args.map (·.ev X.G e) ++ caps) :: D)
    | _ => False
  | .nxt false x => match nextMap S (x.ev X.G e) with
    | some l => ∀ p ∈ l, nx p.1 p.2 D
    | none => False
  | o => match o.ev X.G e S with
    | some (v, S') => nx v S' D
    | none => False

def CI.step (X : Cx) (k : K) (i : CI) (nx : St → Prop) (st : St) : Prop :=
  match i.on st.env with
  | none => False
  | some false => nx ⟨st.env.set i.dst (.tup []), st.S, st.D⟩
  | some true => i.op.beh X st.env st.S st.D (fun v S' D' => nx ⟨st.env.set i.dst v, S', D'⟩) fun v S' => k (.panic v) ⟨[], S', st.D⟩

/-- What the operations of a region do, in each of their orders. -/
def RT.wp (X : Cx) (k : K) : RT → St → Prop
  | .done, st => k .normal st
  | .alt a b, st => a.wp X k st ∧ b.wp X k st
  | .op i r, st => i.step X k (r.wp X k) st

def K.andThen (k : K) (next : St → Prop) : K
  | .normal, st => next st
  | e, st => k e st

def K.inBlock (k : K) (id : Nat) : K
  | .exit j, st => if j = id then k .normal st else k (.exit j) st
  | e, st => k e st

/-- The boxes that nothing speaks of, gone. -/
def gcS (e : Env) (D : List (Nat × List AV)) (S : Store) : Store :=
  killed ((List.range S.length).filter fun b => !(reach S 1000 (refsL (e.map (·.2)) ++ refsL (D.map fun d => .tup d.2)) []).contains b) 0 S

def K.pruned (k : K) (keep : List Nat) (gc : Bool) : K
  | .normal, st => k .normal ⟨st.env.prune keep, if gc then gcS (st.env.prune keep) st.D st.S else st.S, st.D⟩
  | e, st => k e st

/-- A loop: some invariant with a measure. -/
def Lp (body : K → St → Prop) (k : K) (st : St) : Prop :=
  ∃ (I : St → Prop) (m : St → Nat), I st ∧ ∀ s, I s → body (k.andThen fun s' => I s' ∧ m s' < m s) s

/-- What code does. -/
def CC.wp (X : Cx) : CC → K → St → Prop
  | .skip, k, st => k .normal st
  | .reg t keep gc, k, st => t.wp X (k.pruned keep gc) st
  | .seq a b, k, st => a.wp X (k.andThen (b.wp X k)) st
  | .cond x a b, k, st => ∃ t, x.ev X.G st.env = .bool t ∧ (t = true → a.wp X k st) ∧ (t = false → b.wp X k st)
  | .block id b, k, st => b.wp X (k.inBlock id) st
  | .loop b, k, st => Lp (b.wp X) k st
  | .exit id, k, st => k (.exit id) st
  | .ret, k, st => k .ret st
  | .scope b, k, st => b.wp X k st
  | .label _, k, st => k .normal st
  | .stop, _, _ => False

end Go.AM

namespace Go.AM

mutual
def toAV : Value → Option AV
  | .int k n => some (.int k n)
  | .bool b => some (.bool b)
  | .string s => some (.str s.data.toList)
  | .pointer none => some .np
  | .slice none 0 0 => some .nsl
  | .map none => some .nmap
  | .nilFunc => some .nfn
  | .nilIface => some .nif
  | .agg ⟨cs⟩ => match (toAVs cs).map .agg with
    | some a => if cs.all (·.oneCell') then some a else none
    | none => none
  | .tuple ⟨cs⟩ => (toAVs cs).map .tup
  | _ => none
def toAVs : List Value → Option (List AV)
  | [] => some []
  | v :: vs => match toAV v, toAVs vs with
    | some a, some as => some (a :: as)
    | _, _ => none
end

def cOpd : Operand → Option Opd
  | .tmp t => some (.t t)
  | .const v => (toAV v).map .c
  | .global g => some (.g g)
  | .func f => some (.c (.fn f [] []))

def cOpds : List Operand → Option (List Opd)
  | [] => some []
  | x :: xs => match cOpd x, cOpds xs with
    | some a, some as => some (a :: as)
    | _, _ => none

def cOpt : Option Operand → Option (Option Opd)
  | none => some none
  | some x => (cOpd x).map some

variable (P : Program) (pu : Nat → Nat)

def tAgg (t : Nat) : Option Bool := (P.underlying t).map fun
  | .struct _ | .array _ _ => true
  | _ => false

def tSize (t : Nat) : Option Nat := (P.info? t).map (·.size)
def tBytes (t : Nat) : Option Nat := (P.info? t).map (·.bytes)
def tZero (t : Nat) : Option AV := ((P.info? t).bind fun i => i.zero.bind toAV).bind fun z => if z.solid then some z else none

def tKK (t : Nat) : Option KK := match P.underlying t with
  | some (.int _) => some .int
  | some .string => some .str
  | some (.array n e) => match P.underlying e, tSize P e with
    | some (.int .i64), some 1 => some (.ints n)
    | _, _ => none
  | _ => none

def cPlaces (fields : List Field) : List (Nat × Operand) → Option (List (Nat × Nat × Opd))
  | [] => some []
  | (i, x) :: r => match fields[i]? with
    | none => none
    | some f => match tSize P f.type, cOpd x, cPlaces fields r with
      | some n, some a, some as => some ((f.offset, n, a) :: as)
      | _, _, _ => none

def cParts : List (Nat × Operand) → Option (List (Nat × Opd))
  | [] => some []
  | (i, x) :: r => match cOpd x, cParts r with
    | some a, some as => some ((i, a) :: as)
    | _, _ => none

def fieldSizes (fields : List Field) : Bool := fields.all fun f => (tSize P f.type).isSome

def nilKind (t : Nat) : Option Nat := match P.underlying t with
  | some (.pointer _) => some 0
  | some (.slice _) => some 1
  | some (.map _ _) => some 2
  | some (.func _ _ _) => some 3
  | some (.interface _) => some 4
  | _ => none

def isNilVal : Nat → Operand → Bool
  | 0, .const (.pointer none) => true
  | 1, .const (.slice none _ _) => true
  | 2, .const (.map none) => true
  | 3, .const .nilFunc => true
  | 4, .const .nilIface => true
  | _, _ => false

def isU8 (e : Nat) : Bool := match P.underlying e with
  | some (.int .u8) => true
  | _ => false

/-- May the function be entered? -/
def callable (f : Nat) : Bool := match P.funcs[f]? with
  | some fn => fn.body.isSome && fn.name != "runtime.NumGoroutine"
  | none => false

def cCall (c : Call) : Option COp :=
  match c.callee, cOpds c.args.toList with
  | .value (.func f), some as => match P.funcs[f]? with
    | none => none
    | some fn => if fn.body.isSome then (if fn.name != "runtime.NumGoroutine" then some (match pu f with | 0 => .call f as | 1 => .pcall f as | _ => .kcall f as) else none) else
      if fn.origin != "" then none else
      match fn.name, as with
      | "internal/abi.NoEscape", [x] => some (.same x)
      | "internal/bytealg.IndexByteString", [s, b] => some (.idxB s b)
      | "internal/bytealg.CountString", [s, b] => some (.cntB s b)
      | "internal/bytealg.MakeNoZero", [n] => match fn.resultTypes[0]? with
        | some t => match P.underlying t with
          | some (.slice e) => some (.noz e n)
          | _ => none
        | none => none
      | _, _ => none
  | .value (.tmp t), some as => some (.callV (.t t) as)
  | .builtin .len, some [x] => match c.argTypes[0]? with
    | some t => match P.underlying t with
      | some .string => some (.len 0 x)
      | some (.slice _) => some (.len 1 x)
      | some (.map _ _) => some (.len 2 x)
      | some (.array n _) => some (.alen n)
      | _ => none
    | none => none
  | .builtin .cap, some [x] => match c.argTypes[0]? with
    | some t => match P.underlying t with
      | some (.slice _) => some (.cap x)
      | _ => none
    | none => none
  | .builtin .append, some [s, x] => match c.argTypes[0]?, c.argTypes[1]? with
    | some t, some u => match P.underlying t, P.underlying u with
      | some (.slice e), some (.slice _) => match tSize P e, tBytes P e, tZero P e with
        | some sz, some b, some z => if sz = 0 ∨ z.parts.length ≠ sz ∨ 1048576 < b then none else some (.app e sz b z.parts false s x)
        | _, _, _ => none
      | some (.slice e), some .string => match tSize P e, tBytes P e, tZero P e with
        | some sz, some b, some z => if sz ≠ 1 ∨ z.parts.length ≠ sz ∨ 1048576 < b then none else some (.app e sz b z.parts true s x)
        | _, _, _ => none
      | _, _ => none
    | _, _ => none
  | .builtin .copy, some [d, s] => match c.argTypes[0]?, c.argTypes[1]? with
    | some t, some u => match P.underlying t, P.underlying u with
      | some (.slice e), some (.slice _) => match tSize P e with
        | some sz => if sz = 0 then none else some (.copy sz false d s)
        | _ => none
      | some (.slice e), some .string => match tSize P e with
        | some sz => if sz ≠ 1 then none else some (.copy sz true d s)
        | _ => none
      | _, _ => none
    | _, _ => none
  | .builtin .delete, some [m, k] => match c.argTypes[0]? with
    | some t => match P.underlying t with
      | some (.map kt _) => (tKK P kt).map fun kk => .del kk m k
      | _ => none
    | none => none
  | .builtin .max, some [x, y] => some (.max2 x y)
  | .builtin .min, some [x, y] => some (.min2 x y)
  | .builtin .unsafeSliceData, some [x] => some (.usd x)
  | .builtin .unsafeString, some [p, n] => match c.argTypes[0]? with
    | some t => match P.underlying t with
      | some (.pointer e) => match isU8 P e, tSize P e with
        | true, some 1 => some (.ustr e p n)
        | _, _ => none
      | _ => none
    | none => none
  | .builtin .recover, some [] => some .recov
  | _, _ => none

def cBin (op : BinOp) (t : Nat) (x y : Operand) : Option COp :=
  match cOpd x, cOpd y with
  | some a, some b =>
    match op with
    | .eql | .neq => match P.underlying t with
      | some (.int _) | some .string => some (.bin op a b)
      | some .bool => some (.beq (op == .neq) a b)
      | u => match nilKind P t with
        | some k => if isNilVal k y then some (.nilq (op == .neq) k a) else match u with
          | some (.pointer e) => match tSize P e with
            | some (_ + 1) => some (.peq (op == .neq) a b)
            | _ => none
          | _ => none
        | none => none
    | _ => some (.bin op a b)
  | _, _ => none

def cConv (src dst : Nat) (x : Operand) : Option COp :=
  match cOpd x, P.underlying src, P.underlying dst with
  | some a, some (.int _), some (.int k) => some (.conv k a)
  | some a, some .string, some .string => some (.cvs a)
  | some a, some .string, some (.slice e) => if isU8 P e ∧ tSize P e = some 1 then some (.s2b e a) else none
  | some a, some (.slice e), some .string => if isU8 P e then some (.b2s a) else none
  | some a, some (.pointer t), some .unsafePointer => match tSize P t with
    | some (_ + 1) => some (.p2u a)
    | _ => none
  | some a, some .unsafePointer, some (.pointer u) => match tSize P u with
    | some (n + 1) => some (.u2p u n a)
    | _ => none
  | _, _, _ => none

def cOp (o : Oper) : Option COp :=
  match o.op with
  | .move x | .assign x => (cOpd x).map .mov
  | .pick c a b => match cOpd c, cOpd a, cOpd b with
    | some c, some a, some b => some (.pick c a b)
    | _, _, _ => none
  | .binOp op t x y _ => cBin P op t x y
  | .unOp op _ x => (cOpd x).map (.un op)
  | .convert s d x => cConv P s d x
  | .field t x f => match P.underlying t with
    | some (.struct fs) => match fs[f]? with
      | some f => match tSize P f.type, tAgg P f.type, cOpd x with
        | some n, some g, some a => some (.field f.offset n g a)
        | _, _, _ => none
      | none => none
    | _ => none
  | .index t x i => match P.underlying t, cOpd x, cOpd i with
    | some (.array n e), some a, some b => match tSize P e, tAgg P e with
      | some sz, some g => some (.idxA n sz g a b)
      | _, _ => none
    | some .string, some a, some b => some (.idxS a b)
    | _, _, _ => none
  | .extract x i => (cOpd x).map (.extr · i)
  | .build t parts => match P.underlying t, tZero P t with
    | some (.struct fs), some z => if fieldSizes P fs.toList then (cPlaces P fs.toList parts.toList).map (.build z.parts) else none
    | some (.array _ e), some z => match tSize P e, cParts parts.toList with
      | some sz, some ps => some (.build z.parts (ps.map fun p => (p.1 * sz, sz, p.2)))
      | _, _ => none
    | _, _ => none
  | .nilCheck x => (cOpd x).map .nilck
  | .makeInterface t x => match P.underlying t with
    | some (.interface _) => none
    | some _ => (cOpd x).map (.mkif t)
    | none => none
  | .makeFunc (.func f) first caps => match cOpds first.toList, cOpds caps.toList with
    | some a, some b => some (.mkfn f a b)
    | _, _ => none
  | .typeAssert x _ t ok => match P.underlying t with
    | some (.interface _) => none
    | some _ => match cOpd x, tZero P t with
      | some a, some z => some (.tass t z ok a)
      | _, _ => none
    | none => none
  | .fieldAddr s x f => match P.underlying s with
    | some (.struct fs) => match fs[f]? with
      | some f => match tSize P f.type, cOpd x with
        | some (_ + 1), some a => some (.faddr f.offset a)
        | _, _ => none
      | none => none
    | _ => none
  | .indexAddr t x i => match P.underlying t, cOpd x, cOpd i with
    | some (.array n e), some a, some b => (tSize P e).map fun sz => .iaddrA n sz a b
    | some (.slice e), some a, some b => (tSize P e).map fun sz => .iaddr sz a b
    | _, _, _ => none
  | .alloc t => (tZero P t).map fun z => .alloc t z.parts
  | .box t x => (cOpd x).map (.box t)
  | .buildSlice t n parts => match P.underlying t with
    | some (.slice e) => match tSize P e, tZero P e, cParts parts.toList with
      | some sz, some z, some ps => if z.parts.length = sz ∧ n * sz ≤ 2 ^ 24 ∧ 0 < sz then some (.bslice e sz n z.parts ps) else none
      | _, _, _ => none
    | _ => none
  | .makeSlice t l c => match P.underlying t with
    | some (.slice e) => match tSize P e, tBytes P e, tZero P e, cOpd l, cOpd c with
      | some sz, some b, some z, some l, some c => if z.parts.length = sz ∧ 0 < sz then some (.mslice e sz b z.parts l c) else none
      | _, _, _, _, _ => none
    | _ => none
  | .makeMap _ none => some .mmap
  | .makeMap t (some (.const (.int _ _))) => match P.underlying t with
    | some (.map _ _) => some .mmap
    | _ => none
  | .load t x => match tSize P t, tAgg P t, cOpd x with
    | some n, some g, some a => some (.load n g a)
    | _, _, _ => none
  | .store t x v => match tSize P t, cOpd x, cOpd v with
    | some n, some a, some b => some (.store n a b)
    | _, _, _ => none
  | .slice t x lo hi mx => match P.underlying t, cOpd x, cOpt lo, cOpt hi, cOpt mx with
    | some .string, some a, some l, some h, some none => some (.slStr a l h)
    | some (.slice e), some a, some l, some h, some m => match tSize P e with
      | some sz => if m.isSome ∧ h.isNone ∨ sz = 0 then none else some (.slS sz a l h m)
      | none => none
    | some (.array n e), some a, some l, some h, some none => (tSize P e).map fun sz => .slP n sz a l h
    | some (.pointer arr), some a, some l, some h, some none => match P.underlying arr with
      | some (.array n e) => (tSize P e).map fun sz => .slP n sz a l h
      | _ => none
    | _, _, _, _, _ => none
  | .lookup t m k ok => match P.underlying t, cOpd m, cOpd k with
    | some (.map kt e), some a, some b => match tKK P kt, tZero P e with
      | some kk, some z => some (.look kk z ok a b)
      | _, _ => none
    | _, _, _ => none
  | .mapUpdate t m k v | .insert t m k v => match P.underlying t, cOpd m, cOpd k, cOpd v with
    | some (.map kt _), some a, some b, some c => (tKK P kt).map fun kk => .mupd kk a b c
    | _, _, _, _ => none
  | .range t x => match P.underlying t with
    | some .string => (cOpd x).map (.rng true)
    | some (.map _ _) => (cOpd x).map (.rng false)
    | _ => none
  | .next x s => (cOpd x).map (.nxt s)
  | .entry x => (cOpd x).map .entry
  | .call c => cCall P pu c
  | .panic x => (cOpd x).map .pan
  | .defer c => match c.callee, cOpds c.args.toList with
    | .value (.tmp t), some as => some (.defer (.t t) as)
    | _, _ => none
  | _ => none

def cCI (ops : Array Oper) (o : Oper) : Option CI :=
  match o.guard with
  | none => some ⟨o.dst, (cOp P pu o).getD .bad, none⟩
  | some (j, want) => match (ops[j]?).bind (·.dst) with
    | some s => some ⟨o.dst, (cOp P pu o).getD .bad, some (s, want)⟩
    | none => none

/-- How an operation touches the store: 0 not at all, 1 it reads, 2 it makes a new box, 3 it may do anything, 4 it leaves it. -/
def COp.rw : COp → Nat
  | .mov _ | .pick .. | .bin .. | .beq .. | .nilq .. | .un .. | .conv .. | .cvs _ | .field .. | .idxA .. | .idxS .. | .extr .. | .build .. | .nilck _ | .mkif .. | .mkfn ..
  | .tass .. | .faddr .. | .iaddr .. | .iaddrA .. | .slS .. | .slStr .. | .slP .. | .alen _ | .cap _ | .max2 .. | .min2 .. | .usd _ | .same _ | .idxB .. | .cntB .. => 0
  | .peq .. | .load .. | .look .. | .len .. | .entry _ | .b2s _ | .p2u _ | .u2p .. => 1
  | .alloc .. | .box .. | .bslice .. | .mslice .. | .mmap => 2
  | .pcall .. => 4
  | _ => 3

/-- May an operation that reads at most change places with another? -/
def swapRW (a b : Nat) : Bool := a == 0 || b != 3

def COp.opds : COp → List Opd
  | .mov x => [x]
  | .pick c a b => [c, a, b]
  | .bin _ x y => [x, y]
  | .beq _ x y => [x, y]
  | .nilq _ _ x => [x]
  | .peq _ x y => [x, y]
  | .un _ x => [x]
  | .conv _ x => [x]
  | .cvs x => [x]
  | .u2p _ _ x => [x]
  | .p2u x => [x]
  | .s2b _ x => [x]
  | .b2s x => [x]
  | .field _ _ _ x => [x]
  | .idxA _ _ _ x i => [x, i]
  | .idxS x i => [x, i]
  | .extr x _ => [x]
  | .build _ ps => ps.map (·.2.2)
  | .nilck x => [x]
  | .mkif _ x => [x]
  | .mkfn _ a b => a ++ b
  | .tass _ _ _ x => [x]
  | .faddr _ x => [x]
  | .iaddr _ x i => [x, i]
  | .iaddrA _ _ x i => [x, i]
  | .alloc _ _ => []
  | .box _ x => [x]
  | .bslice _ _ _ _ ps => ps.map (·.2)
  | .mslice _ _ _ _ l c => [l, c]
  | .mmap => []
  | .load _ _ x => [x]
  | .store _ x v => [x, v]
  | .slS _ x a b c => x :: (a.toList ++ b.toList ++ c.toList)
  | .slStr x a b => x :: (a.toList ++ b.toList)
  | .slP _ _ x a b => x :: (a.toList ++ b.toList)
  | .look _ _ _ m k => [m, k]
  | .mupd _ m k v => [m, k, v]
  | .ment _ _ m k => [m, k]
  | .estore m s v => [m, s, v]
  | .rng _ x => [x]
  | .nxt _ x => [x]
  | .entry x => [x]
  | .len _ x => [x]
  | .alen _ => []
  | .cap x => [x]
  | .app _ _ _ _ _ s x => [s, x]
  | .copy _ _ d s => [d, s]
  | .del _ m k => [m, k]
  | .max2 x y => [x, y]
  | .min2 x y => [x, y]
  | .usd x => [x]
  | .ustr _ p n => [p, n]
  | .same x => [x]
  | .noz _ x => [x]
  | .idxB s c => [s, c]
  | .cntB s c => [s, c]
  | .call _ as => as
  | .pcall _ as => as
  | .kcall _ as => as
  | .bad => []
  | .callV x as => x :: as
  | .pan x => [x]
  | .recov => []
  | .defer x as => x :: as

def Opd.isSlot (d : Nat) : Opd → Bool
  | .t i => i == d
  | _ => false

/-- Does it look at the slot? -/
def CI.looks (d : Nat) (i : CI) : Bool := i.op.opds.any (·.isSlot d) || match i.guard with
  | some (s, _) => s == d
  | none => false

def CI.apart (x y : CI) : Bool :=
  (match x.dst with
   | some d => !y.looks d && y.dst != some d
   | none => true) &&
  (match y.dst with
   | some d => !x.looks d
   | none => true)

/-- j comes behind i in each order. -/
def late (ops : Array Oper) (i : Nat) : Nat → Nat → Bool
  | 0, _ => false
  | n + 1, j => match ops[j]? with
    | some o => o.after.any fun e => Region.binds .any e && (e.on == i || late ops i n e.on)
    | none => false

/-- Operation i may come first: it changes places with each other that may come ahead of it. -/
def eager (ops : Array Oper) (listed : Array Bool) (i : Nat) (ci : CI) : Bool :=
  decide (ci.op.rw ≤ 1) &&
  (List.range ops.size).all fun j => j == i || listed.getD j true ||
    (match ops[j]? with
    | some oj => match cCI P pu ops oj with
      | some cj => ci.apart cj && swapRW ci.op.rw cj.op.rw
      | none => false
    | none => true) || late ops i 4 j

def findEager (ops : Array Oper) (listed : Array Bool) : List Nat → Option (Nat × CI)
  | [] => none
  | i :: r => match ops[i]? with
    | some oi => match cCI P pu ops oi with
      | some ci => if eager P pu ops listed i ci then some (i, ci) else findEager ops listed r
      | none => findEager ops listed r
    | none => findEager ops listed r

/-- The orders of a region that draws. -/
def gr (ops : Array Oper) : Nat → Array Bool → Option RT
  | 0, listed => if Region.ready .any ops listed = [] then some .done else none
  | n + 1, listed =>
    match Region.ready .any ops listed with
    | [] => some .done
    | i :: r =>
      match findEager P pu ops listed (i :: r) with
      | some (j, cj) => (gr ops n (listed.setIfInBounds j true)).map (.op cj)
      | none =>
        let one (j : Nat) : Option RT := match ops[j]? with
          | some oj => match cCI P pu ops oj, gr ops n (listed.setIfInBounds j true) with
            | some cj, some t => some (.op cj t)
            | _, _ => none
          | none => none
        r.foldl (fun acc j => match acc, one j with | some a, some b => some (.alt a b) | _, _ => none) (one i)

def cOps (ops : Array Oper) : List Oper → Option RT
  | [] => some .done
  | o :: r => match cCI P pu ops o, cOps ops r with
    | some c, some t => some (.op c t)
    | _, _ => none

def cReg (nt : Nat) (ops : Array Oper) (draw : Bool) : Option RT :=
  if !(ops.all fun o => match o.dst with | some d => decide (d < nt) | none => true) then none else
  if draw then gr P pu ops ops.size (Array.replicate ops.size false) else cOps P pu ops ops.toList

def cCode (nt : Nat) (kt : Nat → List Nat × Bool) : Code → Option CC
  | .skip => some .skip
  | .region id ops draw => (cReg P pu nt ops draw).map (.reg · (kt id).1 (kt id).2)
  | .seq a b => match cCode nt kt a, cCode nt kt b with
    | some x, some y => some (.seq x y)
    | _, _ => none
  | .cond c a b => match cOpd c, cCode nt kt a, cCode nt kt b with
    | some c, some x, some y => some (.cond c x y)
    | _, _, _ => none
  | .block id b => (cCode nt kt b).map (.block id)
  | .loop b => (cCode nt kt b).map .loop
  | .exit id => some (.exit id)
  | .scope b => (cCode nt kt b).map .scope
  | .label l => some (.label l)
  | .ret => some .ret
  | _ => some .stop

inductive RV where
  | t (i : Nat)
  | cell (i n : Nat) (agg : Bool)
  deriving Inhabited, DecidableEq

def cRes : List ResultVar → Option (List RV)
  | [] => some []
  | .tmp t :: r => (cRes r).map (.t t :: ·)
  | .cell a t :: r => match tSize P t, tAgg P t, cRes r with
    | some n, some g, some l => some (.cell a n g :: l)
    | _, _, _ => none

def retVs (S : Store) (e : Env) : List RV → Option (List AV)
  | [] => some []
  | .t i :: r => (retVs S e r).map (e.get i :: ·)
  | .cell i n agg :: r => match loadV S n agg (e.get i), retVs S e r with
    | some v, some vs => some (v :: vs)
    | _, _ => none

def retOf : List AV → AV
  | [v] => v
  | vs => .tup vs

def Env.ofArgs : Nat → List AV → Env
  | _, [] => []
  | i, v :: r => (i, v) :: Env.ofArgs (i + 1) r

structure CFn where
  nt : Nat
  res : List RV
  body : CC
  deriving Inhabited

def cFn (kt : Nat → List Nat × Bool) (f : Func) : Option CFn :=
  if f.name == "runtime.NumGoroutine" then none else
  match f.body, cRes P f.results.toList with
  | some c, some r => (cCode P pu f.ntmps kt c).map fun b => ⟨f.ntmps, r, b⟩
  | _, _ => none

end Go.AM

namespace Go.AM

/-- Where a box lies: its block, the cell where it begins, the block's cells, its generation. -/
structure BI where
  blk : Nat
  base : Nat
  size : Nat
  gen : Nat

abbrev Beta := List BI
abbrev Fz := Nat → Prop

mutual
def Rep (β : Beta) (F : Fz) (w : World) : AV → Value → Prop
  | .top, _ => True
  | .int k n, v => v = .int k n
  | .bool b, v => v = .bool b
  | .str s, v => ∃ t : ByteArray, v = .string t ∧ t.data.toList = s
  | .np, v => v = .pointer none
  | .ptr b g off, v => ∃ i a, β[b]? = some i ∧ g ≤ i.gen ∧ v = .pointer (some a) ∧ (g = i.gen → a = ⟨i.blk, i.base + off, none⟩)
  | .fptr cells, v => ∃ blk off, v = .pointer (some ⟨blk, off, none⟩) ∧ F blk ∧ RepAt β F w cells blk off
  | .nsl, v => v = .slice none 0 0
  | .esl, v => ∃ a, v = .slice a 0 0
  | .sl b g off sz len cap, v => ∃ i a c, β[b]? = some i ∧ g ≤ i.gen ∧ v = .slice (some a) len c ∧ len ≤ c ∧ (∀ c', cap = some c' → c = c') ∧
      (g = i.gen → a = ⟨i.blk, i.base + off, none⟩ ∧ (cap = none → i.base + off + c * sz ≤ i.size))
  | .fsl cells len, v => ∃ a c, v = .slice a len c ∧ len ≤ c ∧ (cells = [] ∨ ∃ blk off, a = some ⟨blk, off, none⟩ ∧ F blk ∧ RepAt β F w cells blk off)
  | .nmap, v => v = .map none
  | .map b g, v => ∃ i r, β[b]? = some i ∧ g ≤ i.gen ∧ v = .map (some r) ∧ (g = i.gen → r = i.blk)
  | .fn f first caps, v => ∃ a b, v = .func (.func f) a b ∧ RepL β F w first a.toList ∧ RepL β F w caps b.toList
  | .nfn, v => v = .nilFunc
  | .iface t x, v => ∃ y, v = .iface t y ∧ Rep β F w x y
  | .nif, v => v = .nilIface
  | .agg cs, v => ∃ a, v = .agg a ∧ RepL β F w cs a.toList ∧ ∀ y ∈ a.toList, y.oneCell' = true
  | .tup cs, v => ∃ a, v = .tuple a ∧ RepL β F w cs a.toList
def RepL (β : Beta) (F : Fz) (w : World) : List AV → List Value → Prop
  | [], vs => vs = []
  | c :: cs, vs => ∃ v r, vs = v :: r ∧ Rep β F w c v ∧ RepL β F w cs r
def RepAt (β : Beta) (F : Fz) (w : World) : List AV → Nat → Nat → Prop
  | [], _, _ => True
  | c :: cs, blk, off => (∃ v, w.cell? ⟨blk, off, none⟩ = some v ∧ v.oneCell' = true ∧ Rep β F w c v) ∧ RepAt β F w cs blk (off + 1)
end

def Box.gen : Box → Nat
  | .cells _ _ g _ => g
  | .map _ _ g => g
  | .dead g => g
  | _ => 0

def Box.live : Box → Bool
  | .dead _ => false
  | _ => true

def RepEs (β : Beta) (F : Fz) (w : World) : List (AV × AV × Nat) → List MapEntry → Prop
  | [], es => es = []
  | x :: xs, es => ∃ e r, es = e :: r ∧ Rep β F w x.1 e.key ∧ Rep β F w x.2.1 e.val ∧ e.born = x.2.2 ∧ RepEs β F w xs r

def BoxRel (β : Beta) (F : Fz) (w : World) (i : BI) : Box → Prop
  | .cells cs ty _ slack => w.shape? i.blk = some (ty, i.size) ∧ (∀ o, o < i.size → w.frozen? ⟨i.blk, o, none⟩ = false) ∧ i.base + cs.length ≤ i.size ∧
      (slack = false → i.base = 0 ∧ i.size = cs.length) ∧ RepAt β F w cs i.blk i.base
  | .map es clock _ => ∃ ents, w.heap[i.blk]? = some (.map ents clock) ∧ RepEs β F w es ents.toList ∧ (∀ x ∈ es, x.2.2 < clock) ∧ (es.map (·.2.2)).Nodup
  | .miter m since seen last => ∃ mr sn, i.base = 0 ∧ w.heap[i.blk]? = some (.mapIter mr since sn last) ∧ sn.toList.reverse = seen ∧ (∀ x ∈ seen, x < since) ∧ match m with
      | none => mr = none
      | some (b, g) => ∃ j, β[b]? = some j ∧ g ≤ j.gen ∧ (g = j.gen → mr = some j.blk)
  | .siter s pos => ∃ t : ByteArray, i.base = 0 ∧ w.heap[i.blk]? = some (.stringIter t pos) ∧ t.data.toList = s
  | .dead _ => True

structure StoreRel (β : Beta) (F : Fz) (w : World) (S : Store) : Prop where
  len : S.length = β.length
  box : ∀ (b : Nat) (x : Box) (i : BI), S[b]? = some x → β[b]? = some i → x.gen = i.gen ∧ BoxRel β F w i x
  lt : ∀ (b : Nat) (i : BI), β[b]? = some i → i.blk < w.heap.size
  fl : ∀ k, F k → k < w.heap.size
  nF : ∀ (b : Nat) (x : Box) (i : BI), S[b]? = some x → x.live = true → β[b]? = some i → ¬ F i.blk
  inj : ∀ (b b' : Nat) (x x' : Box) (i i' : BI), S[b]? = some x → S[b']? = some x' → x.live → x'.live → β[b]? = some i → β[b']? = some i' → i.blk = i'.blk → b = b'

/-- From one moment to a later one. -/
structure Ext (β : Beta) (F : Fz) (w : World) (β' : Beta) (F' : Fz) (w' : World) : Prop where
  size : w.heap.size ≤ w'.heap.size
  tape : w'.tape = w.tape
  os : w'.os = w.os
  out : w'.output = w.output
  frame : ∀ k, k < w.heap.size → (F k ∨ ∀ i ∈ β, i.blk ≠ k) → w'.heap[k]? = w.heap[k]?
  blks : ∀ i' ∈ β', (∃ i ∈ β, i.blk = i'.blk) ∨ w.heap.size ≤ i'.blk
  fz : ∀ k, F k → F' k
  fz' : ∀ k, F' k → F k ∨ (∃ i ∈ β, i.blk = k) ∨ w.heap.size ≤ k
  gens : ∀ (b : Nat) (i : BI), β[b]? = some i → ∃ i' : BI, β'[b]? = some i' ∧ i.gen ≤ i'.gen ∧ (i.gen = i'.gen → i' = i)

theorem Ext.refl (β : Beta) (F : Fz) (w : World) : Ext β F w β F w :=
  ⟨Nat.le_refl _, rfl, rfl, rfl, fun _ _ _ => rfl, fun i h => .inl ⟨i, h, rfl⟩, fun _ h => h, fun _ h => .inl h, fun _ i h => ⟨i, h, Nat.le_refl _, fun _ => rfl⟩⟩

theorem Ext.trans {β β' β'' : Beta} {F F' F'' : Fz} {w w' w'' : World} (a : Ext β F w β' F' w') (b : Ext β' F' w' β'' F'' w'') : Ext β F w β'' F'' w'' where
  size := Nat.le_trans a.size b.size
  tape := b.tape.trans a.tape
  os := b.os.trans a.os
  out := b.out.trans a.out
  frame k hk h := by
    rw [b.frame k (Nat.lt_of_lt_of_le hk a.size) (h.imp (a.fz k) fun h i hi he => ?_), a.frame k hk h]
    rcases a.blks i hi with ⟨j, hj, hjj⟩ | hge
    · exact h j hj (hjj.trans he)
    · omega
  blks i' hi' := by
    rcases b.blks i' hi' with ⟨j, hj, hjj⟩ | hge
    · rcases a.blks j hj with ⟨i, hi, hii⟩ | hge
      · exact .inl ⟨i, hi, hii.trans hjj⟩
      · exact .inr (hjj ▸ hge)
    · exact .inr (Nat.le_trans a.size hge)
  fz k h := b.fz k (a.fz k h)
  fz' k h := by
    rcases b.fz' k h with h | ⟨j, hj, hjj⟩ | hge
    · exact a.fz' k h
    · rcases a.blks j hj with ⟨i, hi, hii⟩ | hge
      · exact .inr (.inl ⟨i, hi, hii.trans hjj⟩)
      · exact .inr (.inr (hjj ▸ hge))
    · exact .inr (.inr (Nat.le_trans a.size hge))
  gens k i h := by
    obtain ⟨i', h', hle, he⟩ := a.gens k i h
    obtain ⟨i'', h'', hle', he'⟩ := b.gens k i' h'
    refine ⟨i'', h'', Nat.le_trans hle hle', fun hg => ?_⟩
    have h1 : i.gen = i'.gen := by omega
    have h2 : i'.gen = i''.gen := by omega
    rw [he' h2, he h1]

/-- What keeps a reading: more generations, more that is frozen, and what is frozen as it was. -/
structure Keeps (β : Beta) (F : Fz) (w : World) (β' : Beta) (F' : Fz) (w' : World) : Prop where
  fz : ∀ k, F k → F' k
  heap : ∀ k, F k → k < w.heap.size → w'.heap[k]? = w.heap[k]?
  gens : ∀ (b : Nat) (i : BI), β[b]? = some i → ∃ i' : BI, β'[b]? = some i' ∧ i.gen ≤ i'.gen ∧ (i.gen = i'.gen → i' = i)

theorem Keeps.refl (β : Beta) (F : Fz) (w : World) : Keeps β F w β F w := ⟨fun _ h => h, fun _ _ _ => rfl, fun _ i h => ⟨i, h, Nat.le_refl _, fun _ => rfl⟩⟩

theorem Ext.keeps {β β' : Beta} {F F' : Fz} {w w' : World} {S : Store} (h : Ext β F w β' F' w') (hs : StoreRel β F w S) : Keeps β F w β' F' w' where
  fz := h.fz
  heap k hk hlt := h.frame k hlt (.inl hk)
  gens := h.gens

theorem cell?_of_heap {w w' : World} {a : Addr} (h : w'.heap[a.block]? = w.heap[a.block]?) : w'.cell? a = w.cell? a := by
  simp only [World.cell?, h]

mutual
theorem Rep.keep {β β' : Beta} {F F' : Fz} {w w' : World} (h : Keeps β F w β' F' w') : ∀ (x : AV) (v : Value), Rep β F w x v → Rep β' F' w' x v
  | .top, _, _ => trivial
  | .int _ _, _, hx => hx
  | .bool _, _, hx => hx
  | .str _, _, hx => hx
  | .np, _, hx => hx
  | .ptr b g off, v, hx => by
    obtain ⟨i, a, hi, hg, hv, he⟩ := hx
    obtain ⟨i', hi', hle, hee⟩ := h.gens b i hi
    exact ⟨i', a, hi', by omega, hv, fun hgi => by rw [hee (by omega)]; exact he (by omega)⟩
  | .fptr cells, v, hx => by
    obtain ⟨blk, off, hv, hF, hr⟩ := hx
    exact ⟨blk, off, hv, h.fz _ hF, RepAt.keep h cells blk off hF hr⟩
  | .nsl, _, hx => hx
  | .esl, _, hx => hx
  | .sl b g off sz len cap, v, hx => by
    obtain ⟨i, a, c, hi, hg, hv, hc, hcap, he⟩ := hx
    obtain ⟨i', hi', hle, hee⟩ := h.gens b i hi
    exact ⟨i', a, c, hi', by omega, hv, hc, hcap, fun hgi => by rw [hee (by omega)]; exact he (by omega)⟩
  | .fsl cells len, v, hx => by
    obtain ⟨a, c, hv, hc, hr⟩ := hx
    refine ⟨a, c, hv, hc, ?_⟩
    rcases hr with hr | ⟨blk, off, ha, hF, hr⟩
    · exact .inl hr
    · exact .inr ⟨blk, off, ha, h.fz _ hF, RepAt.keep h cells blk off hF hr⟩
  | .nmap, _, hx => hx
  | .map b g, v, hx => by
    obtain ⟨i, a, hi, hg, hv, he⟩ := hx
    obtain ⟨i', hi', hle, hee⟩ := h.gens b i hi
    exact ⟨i', a, hi', by omega, hv, fun hgi => by rw [hee (by omega)]; exact he (by omega)⟩
  | .fn f first caps, v, hx => by
    obtain ⟨a, b, hv, ha, hb⟩ := hx
    exact ⟨a, b, hv, RepL.keep h first _ ha, RepL.keep h caps _ hb⟩
  | .nfn, _, hx => hx
  | .iface t x, v, hx => by
    obtain ⟨y, hv, hy⟩ := hx
    exact ⟨y, hv, Rep.keep h x y hy⟩
  | .nif, _, hx => hx
  | .agg cs, v, hx => by
    obtain ⟨a, hv, ha, hc⟩ := hx
    exact ⟨a, hv, RepL.keep h cs _ ha, hc⟩
  | .tup cs, v, hx => by
    obtain ⟨a, hv, ha⟩ := hx
    exact ⟨a, hv, RepL.keep h cs _ ha⟩
theorem RepL.keep {β β' : Beta} {F F' : Fz} {w w' : World} (h : Keeps β F w β' F' w') : ∀ (x : List AV) (v : List Value), RepL β F w x v → RepL β' F' w' x v
  | [], _, hx => hx
  | c :: cs, v, hx => by
    obtain ⟨y, r, hv, hy, hr⟩ := hx
    exact ⟨y, r, hv, Rep.keep h c y hy, RepL.keep h cs r hr⟩
theorem RepAt.keep {β β' : Beta} {F F' : Fz} {w w' : World} (h : Keeps β F w β' F' w') : ∀ (x : List AV) (blk off : Nat), F blk → RepAt β F w x blk off → RepAt β' F' w' x blk off
  | [], _, _, _, _ => trivial
  | c :: cs, blk, off, hF, hx => by
    obtain ⟨⟨v, hv, hone, hr⟩, hcs⟩ := hx
    refine ⟨⟨v, ?_, hone, Rep.keep h c v hr⟩, RepAt.keep h cs blk (off + 1) hF hcs⟩
    rw [cell?_of_heap (h.heap blk hF (World.block_lt_of_cell? _ _ hv))]
    exact hv
end

/-- A row whose cells are as they were reads as it did. -/
theorem RepAt.keep' {β β' : Beta} {F F' : Fz} {w w' : World} (h : Keeps β F w β' F' w') (blk : Nat) : ∀ (x : List AV) (off : Nat),
    (∀ k, k < x.length → w'.cell? ⟨blk, off + k, none⟩ = w.cell? ⟨blk, off + k, none⟩) → RepAt β F w x blk off → RepAt β' F' w' x blk off
  | [], _, _, _ => trivial
  | c :: cs, off, hc, hx => by
    obtain ⟨⟨v, hv, hone, hr⟩, hcs⟩ := hx
    refine ⟨⟨v, ?_, hone, Rep.keep h c v hr⟩, RepAt.keep' h blk cs (off + 1) (fun k hk => ?_) hcs⟩
    · have := hc 0 (by simp); simp only [Nat.add_zero] at this; rw [this]; exact hv
    · have := hc (k + 1) (by simp; omega)
      rw [show off + 1 + k = off + (k + 1) by omega]; exact this

theorem RepEs.keep {β β' : Beta} {F F' : Fz} {w w' : World} (h : Keeps β F w β' F' w') : ∀ (x : List (AV × AV × Nat)) (v : List MapEntry), RepEs β F w x v → RepEs β' F' w' x v
  | [], _, hx => hx
  | c :: cs, v, hx => by
    obtain ⟨e, r, hv, hk, hy, hb, hr⟩ := hx
    exact ⟨e, r, hv, Rep.keep h _ _ hk, Rep.keep h _ _ hy, hb, RepEs.keep h cs r hr⟩

theorem RepL.length : ∀ {x : List AV} {v : List Value} {β : Beta} {F : Fz} {w : World}, RepL β F w x v → v.length = x.length
  | [], _, _, _, _, hx => by rw [hx]; rfl
  | _ :: _, _, _, _, _, hx => by
    obtain ⟨y, r, hv, _, hr⟩ := hx
    rw [hv]; simp [RepL.length hr]

theorem RepL.get {β : Beta} {F : Fz} {w : World} : ∀ {x : List AV} {v : List Value}, RepL β F w x v → ∀ (i : Nat) (a : AV), x[i]? = some a → ∃ y, v[i]? = some y ∧ Rep β F w a y
  | [], _, _, i, a, h => by simp at h
  | c :: cs, v, hx, i, a, h => by
    obtain ⟨y, r, hv, hy, hr⟩ := hx
    cases i with
    | zero => simp at h; subst h; exact ⟨y, by rw [hv]; rfl, hy⟩
    | succ i => rw [hv]; exact RepL.get hr i a (by simpa using h)

theorem RepL.append {β : Beta} {F : Fz} {w : World} : ∀ {x x' : List AV} {v v' : List Value}, RepL β F w x v → RepL β F w x' v' → RepL β F w (x ++ x') (v ++ v')
  | [], _, _, _, hx, hx' => by rw [hx]; exact hx'
  | c :: cs, _, v, v', hx, hx' => by
    obtain ⟨y, r, hv, hy, hr⟩ := hx
    exact ⟨y, r ++ v', by rw [hv]; rfl, hy, RepL.append hr hx'⟩

theorem RepL.take {β : Beta} {F : Fz} {w : World} : ∀ {x : List AV} {v : List Value} (n : Nat), RepL β F w x v → RepL β F w (x.take n) (v.take n)
  | _, _, 0, _ => by simp [RepL]
  | [], _, n + 1, hx => by rw [hx]; simp [RepL]
  | c :: cs, v, n + 1, hx => by
    obtain ⟨y, r, hv, hy, hr⟩ := hx
    rw [hv]; exact ⟨y, r.take n, rfl, hy, RepL.take n hr⟩

theorem RepL.drop {β : Beta} {F : Fz} {w : World} : ∀ {x : List AV} {v : List Value} (n : Nat), RepL β F w x v → RepL β F w (x.drop n) (v.drop n)
  | _, _, 0, h => h
  | [], _, n + 1, hx => by rw [hx]; simp [RepL]
  | c :: cs, v, n + 1, hx => by
    obtain ⟨y, r, hv, hy, hr⟩ := hx
    rw [hv]; exact RepL.drop n hr

theorem RepAt.drop {β : Beta} {F : Fz} {w : World} {blk : Nat} : ∀ {x : List AV} {off : Nat} (n : Nat), RepAt β F w x blk off → RepAt β F w (x.drop n) blk (off + n)
  | _, _, 0, h => h
  | [], _, n + 1, _ => by simp [RepAt]
  | c :: cs, off, n + 1, hx => by
    have := RepAt.drop n hx.2
    rw [show off + 1 + n = off + (n + 1) by omega] at this
    exact this

theorem RepAt.take {β : Beta} {F : Fz} {w : World} {blk : Nat} : ∀ {x : List AV} {off : Nat} (n : Nat), RepAt β F w x blk off → RepAt β F w (x.take n) blk off
  | _, _, 0, _ => by simp [RepAt]
  | [], _, n + 1, _ => by simp [RepAt]
  | c :: cs, off, n + 1, hx => ⟨hx.1, RepAt.take n hx.2⟩

theorem RepAt.append {β : Beta} {F : Fz} {w : World} {blk : Nat} : ∀ {x y : List AV} {off : Nat}, RepAt β F w x blk off → RepAt β F w y blk (off + x.length) → RepAt β F w (x ++ y) blk off
  | [], _, _, _, hy => hy
  | c :: cs, y, off, hx, hy => ⟨hx.1, RepAt.append hx.2 (by
      rw [show off + 1 + cs.length = off + (c :: cs).length by simp; omega]; exact hy)⟩

theorem RepAt.get {β : Beta} {F : Fz} {w : World} {blk : Nat} : ∀ {x : List AV} {off : Nat}, RepAt β F w x blk off → ∀ (i : Nat) (a : AV), x[i]? = some a →
    ∃ v, w.cell? ⟨blk, off + i, none⟩ = some v ∧ v.oneCell' = true ∧ Rep β F w a v
  | [], _, _, i, a, h => by simp at h
  | c :: cs, off, hx, i, a, h => by
    cases i with
    | zero => simp at h; subst h; exact hx.1
    | succ i =>
      obtain ⟨v, hv, hr⟩ := RepAt.get hx.2 i a (by simpa using h)
      exact ⟨v, by rw [show off + (i + 1) = off + 1 + i by omega]; exact hv, hr⟩

/-- What the row's cells hold. -/
theorem RepAt.list {β : Beta} {F : Fz} {w : World} {blk : Nat} : ∀ {x : List AV} {off : Nat}, RepAt β F w x blk off →
    ∃ vs, RepL β F w x vs ∧ (∀ y ∈ vs, y.oneCell' = true) ∧ ∀ k v, vs[k]? = some v → w.cell? ⟨blk, off + k, none⟩ = some v
  | [], _, _ => ⟨[], by simp [RepL], by simp, by simp⟩
  | c :: cs, off, hx => by
    obtain ⟨⟨v, hv, hone, hr⟩, hcs⟩ := hx
    obtain ⟨vs, hl, ho, hk⟩ := RepAt.list hcs
    refine ⟨v :: vs, ⟨v, vs, rfl, hr, hl⟩, by simpa using ⟨hone, ho⟩, fun k u hu => ?_⟩
    cases k with
    | zero => simp at hu; subst hu; exact hv
    | succ k => rw [show off + (k + 1) = off + 1 + k by omega]; exact hk k u (by simpa using hu)

theorem RepAt.of_list {β : Beta} {F : Fz} {w : World} {blk : Nat} : ∀ {x : List AV} {off : Nat} {vs : List Value}, RepL β F w x vs → (∀ y ∈ vs, y.oneCell' = true) →
    (∀ k v, vs[k]? = some v → w.cell? ⟨blk, off + k, none⟩ = some v) → RepAt β F w x blk off
  | [], _, _, _, _, _ => trivial
  | c :: cs, off, vs, hl, ho, hk => by
    obtain ⟨v, r, rfl, hv, hr⟩ := hl
    refine ⟨⟨v, by simpa using hk 0 v rfl, ho v (by simp), hv⟩, RepAt.of_list hr (fun y hy => ho y (by simp [hy])) fun k u hu => ?_⟩
    rw [show off + 1 + k = off + (k + 1) by omega]; exact hk (k + 1) u (by simpa using hu)

mutual
theorem Rep.pure {β : Beta} {F : Fz} {w : World} (β' : Beta) : ∀ (x : AV) (v : Value), x.pure = true → Rep β F w x v → Rep β' F w x v
  | .top, _, _, _ => trivial
  | .int _ _, _, _, hx => hx
  | .bool _, _, _, hx => hx
  | .str _, _, _, hx => hx
  | .np, _, _, hx => hx
  | .ptr _ _ _, _, h, _ => by simp [AV.pure] at h
  | .fptr cells, v, h, hx => by
    obtain ⟨blk, off, hv, hF, hr⟩ := hx
    exact ⟨blk, off, hv, hF, RepAt.pure β' cells blk off (by simpa [AV.pure] using h) hr⟩
  | .nsl, _, _, hx => hx
  | .esl, _, _, hx => hx
  | .sl _ _ _ _ _ _, _, h, _ => by simp [AV.pure] at h
  | .fsl cells len, v, h, hx => by
    obtain ⟨a, c, hv, hc, hr⟩ := hx
    refine ⟨a, c, hv, hc, ?_⟩
    rcases hr with hr | ⟨blk, off, ha, hF, hr⟩
    · exact .inl hr
    · exact .inr ⟨blk, off, ha, hF, RepAt.pure β' cells blk off (by simpa [AV.pure] using h) hr⟩
  | .nmap, _, _, hx => hx
  | .map _ _, _, h, _ => by simp [AV.pure] at h
  | .fn f first caps, v, h, hx => by
    obtain ⟨a, b, hv, ha, hb⟩ := hx
    simp only [AV.pure, Bool.and_eq_true] at h
    exact ⟨a, b, hv, RepL.pure β' first _ h.1 ha, RepL.pure β' caps _ h.2 hb⟩
  | .nfn, _, _, hx => hx
  | .iface t x, v, h, hx => by
    obtain ⟨y, hv, hy⟩ := hx
    exact ⟨y, hv, Rep.pure β' x y (by simpa [AV.pure] using h) hy⟩
  | .nif, _, _, hx => hx
  | .agg cs, v, h, hx => by
    obtain ⟨a, hv, ha, hc⟩ := hx
    exact ⟨a, hv, RepL.pure β' cs _ (by simpa [AV.pure] using h) ha, hc⟩
  | .tup cs, v, h, hx => by
    obtain ⟨a, hv, ha⟩ := hx
    exact ⟨a, hv, RepL.pure β' cs _ (by simpa [AV.pure] using h) ha⟩
theorem RepL.pure {β : Beta} {F : Fz} {w : World} (β' : Beta) : ∀ (x : List AV) (v : List Value), pureL x = true → RepL β F w x v → RepL β' F w x v
  | [], _, _, hx => hx
  | c :: cs, v, h, hx => by
    obtain ⟨y, r, hv, hy, hr⟩ := hx
    simp only [pureL, Bool.and_eq_true] at h
    exact ⟨y, r, hv, Rep.pure β' c y h.1 hy, RepL.pure β' cs r h.2 hr⟩
theorem RepAt.pure {β : Beta} {F : Fz} {w : World} (β' : Beta) : ∀ (x : List AV) (blk off : Nat), pureL x = true → RepAt β F w x blk off → RepAt β' F w x blk off
  | [], _, _, _, _ => trivial
  | c :: cs, blk, off, h, hx => by
    obtain ⟨⟨v, hv, hone, hr⟩, hcs⟩ := hx
    simp only [pureL, Bool.and_eq_true] at h
    exact ⟨⟨v, hv, hone, Rep.pure β' c v h.1 hr⟩, RepAt.pure β' cs blk (off + 1) h.2 hcs⟩
end

theorem BoxRel.keep {β β' : Beta} {F F' : Fz} {w w' : World} {i : BI} {x : Box} (h : Keeps β F w β' F' w') (hh : w'.heap[i.blk]? = w.heap[i.blk]?) (hx : BoxRel β F w i x) : BoxRel β' F' w' i x := by
  cases x with
  | cells cs ty g sk =>
    obtain ⟨h1, h2, h3, h4, h5⟩ := hx
    refine ⟨?_, ?_, h3, h4, ?_⟩
    · simp only [World.shape?, hh] at h1 ⊢; exact h1
    · intro o ho; have := h2 o ho; simp only [World.frozen?, hh] at this ⊢; exact this
    · exact RepAt.keep' h i.blk cs i.base (fun k _ => cell?_of_heap hh) h5
  | map es clock g =>
    obtain ⟨ents, h1, h2, h3, h4⟩ := hx
    exact ⟨ents, by rw [hh]; exact h1, RepEs.keep h _ _ h2, h3, h4⟩
  | miter m since seen last =>
    obtain ⟨mr, sn, h0, h1, h2, h3, h4⟩ := hx
    refine ⟨mr, sn, h0, by rw [hh]; exact h1, h2, h3, ?_⟩
    cases m with
    | none => exact h4
    | some p =>
      obtain ⟨b, g⟩ := p
      obtain ⟨j, hj, hg, he⟩ := h4
      obtain ⟨j', hj', hle, hee⟩ := h.gens b j hj
      exact ⟨j', hj', by omega, fun hgi => by rw [hee (by omega)]; exact he (by omega)⟩
  | siter s pos =>
    obtain ⟨t, h0, h1, h2⟩ := hx
    exact ⟨t, h0, by rw [hh]; exact h1, h2⟩
  | dead g => trivial

end Go.AM

namespace Go.AM

theorem RepAt.iff {β : Beta} {F : Fz} {w : World} {blk : Nat} : ∀ {x : List AV} {off : Nat}, RepAt β F w x blk off ↔
    ∀ (i : Nat) (a : AV), x[i]? = some a → ∃ v, w.cell? ⟨blk, off + i, none⟩ = some v ∧ v.oneCell' = true ∧ Rep β F w a v
  | [], _ => by simp [RepAt]
  | c :: cs, off => by
    constructor
    · exact fun h => RepAt.get h
    · intro h
      refine ⟨by simpa using h 0 c rfl, RepAt.iff.2 fun i a hi => ?_⟩
      rw [show off + 1 + i = off + (i + 1) by omega]
      exact h (i + 1) a (by simpa using hi)

theorem wrl_length : ∀ (vs cs : List AV) (off : Nat), (wrl cs off vs).length = cs.length
  | [], _, _ => rfl
  | v :: vs, cs, off => by rw [wrl, wrl_length vs]; simp

theorem wrl_get : ∀ (vs cs : List AV) (off i : Nat), (wrl cs off vs)[i]? = if off ≤ i ∧ i < off + vs.length ∧ i < cs.length then vs[i - off]? else cs[i]?
  | [], cs, off, i => by simp [wrl]; omega
  | v :: vs, cs, off, i => by
    rw [wrl, wrl_get vs]
    simp only [List.length_set, List.length_cons]
    by_cases h1 : i = off
    · subst h1
      simp only [show ¬(i + 1 ≤ i) by omega, false_and, if_false, List.getElem?_set]
      by_cases h2 : i < cs.length
      · simp [h2]
      · simp [h2]
    · by_cases h2 : off + 1 ≤ i ∧ i < off + 1 + vs.length ∧ i < cs.length
      · rw [if_pos h2, if_pos (by omega)]
        rw [show i - off = (i - (off + 1)) + 1 by omega]; simp
      · rw [if_neg h2]
        by_cases h3 : off ≤ i ∧ i < off + (vs.length + 1) ∧ i < cs.length
        · omega
        · rw [if_neg h3, List.getElem?_set_ne (by omega)]

theorem addr_add (b o n : Nat) : (⟨b, o, none⟩ : Addr).add n = ⟨b, o + n, none⟩ := by
  unfold Addr.add; split <;> simp_all

section
variable {P : Program} {w : World}

theorem run_underlying {t : Nat} {d : TypeDesc} (h : P.underlying t = some d) : (underlying t).run P w = .ok d w := by
  simp [underlying, h]

theorem run_typeInfo {t : Nat} {i : TypeInfo} (h : P.info? t = some i) : (typeInfo t).run P w = .ok i w := by
  simp [typeInfo, h]

theorem run_sizeOf {t n : Nat} (h : tSize P t = some n) : (sizeOf t).run P w = .ok n w := by
  unfold tSize at h
  cases hi : P.info? t with
  | none => simp [hi] at h
  | some i => simp only [hi, Option.map_some, Option.some.injEq] at h; simp [sizeOf, run_typeInfo hi, h]

theorem run_isAgg {t : Nat} {g : Bool} (h : tAgg P t = some g) : (isAgg t).run P w = .ok g w := by
  unfold tAgg at h
  cases hi : P.underlying t with
  | none => simp [hi] at h
  | some d =>
    simp only [hi, Option.map_some, Option.some.injEq] at h
    unfold isAgg
    simp only [Sem.run_bind, run_underlying hi, Result.andThen_ok]
    subst h
    cases d <;> rfl

theorem loadCellsFrom_run (b o : Nat) : ∀ (n i : Nat) (acc : Array Value) (vs : List Value), vs.length = n →
    (∀ k v, vs[k]? = some v → w.cell? ⟨b, o + (i + k), none⟩ = some v) →
    (loadCellsFrom ⟨b, o, none⟩ i n acc).run P w = .ok (acc ++ vs.toArray) w
  | 0, i, acc, vs, hl, _ => by
    have : vs = [] := List.length_eq_zero_iff.1 hl
    subst this; simp [loadCellsFrom]
  | n + 1, i, acc, vs, hl, h => by
    cases vs with
    | nil => simp at hl
    | cons v vs =>
      have h0 := h 0 v rfl
      simp only [Nat.add_zero] at h0
      simp only [loadCellsFrom, Sem.run_bind, run_load, addr_add, h0, Result.andThen_ok]
      rw [loadCellsFrom_run b o n (i + 1) (acc.push v) vs (by simpa using hl) fun k u hu => by
        rw [show o + (i + 1 + k) = o + (i + (k + 1)) by omega]; exact h (k + 1) u (by simpa using hu)]
      congr 1
      apply Array.ext'
      simp

theorem loadCells_run {b o n : Nat} {vs : List Value} (hl : vs.length = n) (h : ∀ k v, vs[k]? = some v → w.cell? ⟨b, o + k, none⟩ = some v) :
    (loadCells ⟨b, o, none⟩ n).run P w = .ok vs.toArray w := by
  unfold loadCells
  rw [loadCellsFrom_run b o n 0 #[] vs hl (by simpa using h)]
  simp

/-- A row was written. -/
structure Wrote (w : World) (blk off : Nat) (vs : List Value) (w' : World) : Prop where
  size : w'.heap.size = w.heap.size
  tape : w'.tape = w.tape
  os : w'.os = w.os
  out : w'.output = w.output
  other : ∀ k, k ≠ blk → w'.heap[k]? = w.heap[k]?
  shape : w'.shape? blk = w.shape? blk
  frozen : ∀ o, w'.frozen? ⟨blk, o, none⟩ = w.frozen? ⟨blk, o, none⟩
  cell : ∀ o, w'.cell? ⟨blk, o, none⟩ = if off ≤ o ∧ o < off + vs.length then vs[o - off]? else w.cell? ⟨blk, o, none⟩

theorem setCell_shape (a : Addr) (v : Value) (r : Nat) : (w.setCell a v).shape? r = w.shape? r := by
  simp only [World.shape?, World.setCell, Array.getElem?_modify]
  by_cases h : a.block = r
  · subst h
    simp only [if_true]
    cases hw : w.heap[a.block]? with
    | none => simp
    | some o => cases o <;> simp; split <;> simp
  · simp [h]

theorem setCell_other (a : Addr) (v : Value) (k : Nat) (h : k ≠ a.block) : (w.setCell a v).heap[k]? = w.heap[k]? := by
  simp [World.setCell, Array.getElem?_modify, Ne.symm h]

theorem storeCells_run (b o : Nat) : ∀ (vs : List Value) (i : Nat) (w : World), (∀ v ∈ vs, v.oneCell' = true) →
    (∀ k, k < vs.length → (∃ v, w.cell? ⟨b, o + (i + k), none⟩ = some v) ∧ w.frozen? ⟨b, o + (i + k), none⟩ = false) →
    ∃ w', (storeCells ⟨b, o, none⟩ vs i).run P w = .ok () w' ∧ Wrote w b (o + i) vs w'
  | [], i, w, _, _ => ⟨w, by simp [storeCells], rfl, rfl, rfl, rfl, fun _ _ => rfl, rfl, fun _ => rfl, fun q => by simp; omega⟩
  | v :: vs, i, w, hone, h => by
    obtain ⟨⟨u, hu⟩, hf⟩ := h 0 (by simp)
    simp only [Nat.add_zero] at hu hf
    have hone0 := hone v (by simp)
    have hstep : (store ((⟨b, o, none⟩ : Addr).add i) v).run P w = .ok () (w.setCell ⟨b, o + i, none⟩ v) := by
      rw [addr_add, run_store P w _ v .plain hone0, hu]
      simp [hf]
    have hcell : ∀ q, (w.setCell ⟨b, o + i, none⟩ v).cell? ⟨b, q, none⟩ = if q = o + i then some v else w.cell? ⟨b, q, none⟩ := by
      intro q
      by_cases hq : q = o + i
      · subst hq; rw [if_pos rfl]; exact World.cell?_setCell_same w _ _ hu
      · rw [if_neg hq]; exact World.cell?_setCell_other w _ _ _ (fun he => hq (by injection he with _ h2 _; exact h2.symm))
    obtain ⟨w', hr, hw⟩ := storeCells_run b o vs (i + 1) (w.setCell ⟨b, o + i, none⟩ v) (fun x hx => hone x (by simp [hx])) (fun k hk => by
      obtain ⟨⟨u', hu'⟩, hf'⟩ := h (k + 1) (by simpa using hk)
      rw [show o + (i + 1 + k) = o + (i + (k + 1)) by omega]
      refine ⟨⟨u', ?_⟩, ?_⟩
      · rw [hcell, if_neg (by omega)]; exact hu'
      · rw [World.frozen?_setCell]; exact hf')
    refine ⟨w', ?_, ?_⟩
    · simp only [storeCells, Sem.run_bind, hstep, Result.andThen_ok, hr]
    · refine ⟨hw.size.trans (World.size_setCell w _ _), hw.tape, hw.os, hw.out, fun k hk => ?_, ?_, fun q => ?_, fun q => ?_⟩
      · rw [hw.other k hk, setCell_other _ _ _ hk]
      · rw [hw.shape, setCell_shape]
      · rw [hw.frozen, World.frozen?_setCell]
      · rw [hw.cell, hcell]
        simp only [List.length_cons]
        by_cases h1 : q = o + i
        · subst h1
          rw [if_neg (by omega), if_pos rfl, if_pos (by omega)]; simp
        · rw [if_neg h1]
          by_cases h2 : o + (i + 1) ≤ q ∧ q < o + (i + 1) + vs.length
          · rw [if_pos h2, if_pos (by omega), show q - (o + i) = (q - (o + (i + 1))) + 1 by omega]; simp
          · rw [if_neg h2, if_neg (by omega)]

end
end Go.AM

namespace Go.AM

variable {β : Beta} {F : Fz} {w : World} {S : Store}

theorem heap_alloc (o : Obj) (k : Nat) : (w.alloc o).heap[k]? = if k = w.heap.size then some o else w.heap[k]? := by
  simp only [World.alloc, Array.getElem?_push]

theorem Ext.push (o : Obj) (i : BI) (hi : i.blk = w.heap.size) : Ext β F w (β ++ [i]) F (w.alloc o) where
  size := by simp
  tape := rfl
  os := rfl
  out := rfl
  frame k hk _ := by rw [heap_alloc, if_neg (by omega)]
  blks j hj := by
    rcases List.mem_append.1 hj with h | h
    · exact .inl ⟨j, h, rfl⟩
    · simp at h; subst h; exact .inr (by omega)
  fz _ h := h
  fz' _ h := .inl h
  gens b j hj := ⟨j, by rw [List.getElem?_append_left (List.getElem?_eq_some_iff.1 hj).1]; exact hj, Nat.le_refl _, fun _ => rfl⟩

theorem StoreRel.push (hs : StoreRel β F w S) (o : Obj) (x : Box) (i : BI) (hi : i.blk = w.heap.size) (hg : x.gen = i.gen)
    (hx : BoxRel (β ++ [i]) F (w.alloc o) i x) : StoreRel (β ++ [i]) F (w.alloc o) (S ++ [x]) := by
  have hE : Ext β F w (β ++ [i]) F (w.alloc o) := Ext.push o i hi
  have hlen := hs.len
  have hget : ∀ (b : Nat) (j : BI), (β ++ [i])[b]? = some j → (b < β.length ∧ β[b]? = some j) ∨ (b = β.length ∧ j = i) := by
    intro b j hj
    rcases Nat.lt_or_ge b β.length with h | h
    · rw [List.getElem?_append_left h] at hj; exact .inl ⟨h, hj⟩
    · rw [List.getElem?_append_right h] at hj
      have hb : b = β.length := by
        have := (List.getElem?_eq_some_iff.1 hj).1; simp at this; omega
      subst hb; simp at hj; exact .inr ⟨rfl, hj.symm⟩
  have hgetS : ∀ (b : Nat) (y : Box), (S ++ [x])[b]? = some y → (b < β.length → S[b]? = some y) ∧ (b = β.length → y = x) := by
    intro b y hy
    refine ⟨fun h => ?_, fun h => ?_⟩
    · rw [List.getElem?_append_left (by omega)] at hy; exact hy
    · subst h; rw [← hlen, List.getElem?_append_right (by omega)] at hy; simp at hy; exact hy.symm
  refine ⟨by simp [hlen], ?_, ?_, ?_, ?_, ?_⟩
  · intro b y j hy hj
    rcases hget b j hj with ⟨h, hj⟩ | ⟨h, hj⟩
    · have hy := (hgetS b y hy).1 h
      obtain ⟨h1, h2⟩ := hs.box b y j hy hj
      have hlt := hs.lt b j hj
      exact ⟨h1, h2.keep (hE.keeps hs) (by rw [heap_alloc, if_neg (by omega)])⟩
    · have hy := (hgetS b y hy).2 h
      subst hj; subst hy; exact ⟨hg, hx⟩
  · intro b j hj
    simp only [World.size_alloc]
    rcases hget b j hj with ⟨h, hj⟩ | ⟨h, hj⟩
    · have := hs.lt b j hj; omega
    · subst hj; omega
  · intro k hk; have := hs.fl k hk; simp only [World.size_alloc]; omega
  · intro b x' j hx' hl hj hF
    rcases hget b j hj with ⟨h, hj⟩ | ⟨h, hj⟩
    · exact hs.nF b x' j ((hgetS b x' hx').1 h) hl hj hF
    · subst hj; have := hs.fl _ hF; omega
  · intro b b' y y' j j' hy hy' hl hl' hj hj' he
    rcases hget b j hj with ⟨h, hj⟩ | ⟨h, hj⟩ <;> rcases hget b' j' hj' with ⟨h', hj'⟩ | ⟨h', hj'⟩
    · exact hs.inj b b' y y' j j' ((hgetS b y hy).1 h) ((hgetS b' y' hy').1 h') hl hl' hj hj' he
    · have := hs.lt b j hj; subst hj'; omega
    · have := hs.lt b' j' hj'; subst hj; omega
    · omega

theorem StoreRel.upd (hs : StoreRel β F w S) {b : Nat} {x x' : Box} {i i' : BI} {w' : World} (hb : S[b]? = some x) (hi : β[b]? = some i)
    (hsize : w.heap.size ≤ w'.heap.size) (htape : w'.tape = w.tape) (hos : w'.os = w.os) (hout : w'.output = w.output)
    (hother : ∀ k, k < w.heap.size → k ≠ i.blk → w'.heap[k]? = w.heap[k]?) (hlive : x.live = true)
    (hgen : i.gen ≤ i'.gen) (hgi : i.gen = i'.gen → i' = i) (hxg : x'.gen = i'.gen)
    (hblk : i'.blk = i.blk ∨ (w.heap.size ≤ i'.blk ∧ i'.blk < w'.heap.size))
    (hx' : BoxRel (β.set b i') F w' i' x') :
    StoreRel (β.set b i') F w' (S.set b x') ∧ Ext β F w (β.set b i') F w' := by
  have hbl : b < β.length := (List.getElem?_eq_some_iff.1 hi).1
  have hbS : b < S.length := (List.getElem?_eq_some_iff.1 hb).1
  have hE : Ext β F w (β.set b i') F w' := by
    refine ⟨hsize, htape, hos, hout, fun k hk hn => hother k hk (fun he => hn.elim (fun hF => hs.nF b x i hb hlive hi (he ▸ hF)) fun hn => hn i (List.mem_of_getElem? hi) he.symm), fun j hj => ?_, fun _ h => h, fun _ h => .inl h, fun c j hj => ?_⟩
    · rcases List.mem_or_eq_of_mem_set hj with h | h
      · exact .inl ⟨j, h, rfl⟩
      · subst h
        rcases hblk with h | h
        · exact .inl ⟨i, List.mem_of_getElem? hi, h.symm⟩
        · exact .inr h.1
    · by_cases hc : c = b
      · subst hc
        rw [hi] at hj; injection hj with hj; subst hj
        exact ⟨i', by rw [List.getElem?_set_self hbl], hgen, hgi⟩
      · exact ⟨j, by rw [List.getElem?_set_ne (Ne.symm hc)]; exact hj, Nat.le_refl _, fun _ => rfl⟩
  have hget : ∀ (c : Nat) (j : BI), (β.set b i')[c]? = some j → (c ≠ b ∧ β[c]? = some j) ∨ (c = b ∧ j = i') := by
    intro c j hj
    by_cases hc : c = b
    · subst hc; rw [List.getElem?_set_self hbl] at hj; injection hj with hj; exact .inr ⟨rfl, hj.symm⟩
    · rw [List.getElem?_set_ne (Ne.symm hc)] at hj; exact .inl ⟨hc, hj⟩
  have hgetS : ∀ (c : Nat) (y : Box), (S.set b x')[c]? = some y → (c ≠ b → S[c]? = some y) ∧ (c = b → y = x') := by
    intro c y hy
    refine ⟨fun hc => ?_, fun hc => ?_⟩
    · rw [List.getElem?_set_ne (Ne.symm hc)] at hy; exact hy
    · subst hc; rw [List.getElem?_set_self hbS] at hy; injection hy with hy; exact hy.symm
  refine ⟨⟨by simp [hs.len], ?_, ?_, ?_, ?_, ?_⟩, hE⟩
  · intro c y j hy hj
    rcases hget c j hj with ⟨hc, hj⟩ | ⟨hc, hj⟩
    · have hy := (hgetS c y hy).1 hc
      obtain ⟨h1, h2⟩ := hs.box c y j hy hj
      refine ⟨h1, ?_⟩
      cases hl : y.live with
      | false => cases y <;> simp_all [Box.live, BoxRel]
      | true =>
        have hne : j.blk ≠ i.blk := fun he => hc (hs.inj c b y x j i hy hb hl hlive hj hi he)
        exact h2.keep (hE.keeps hs) (hother _ (hs.lt c j hj) hne)
    · have hy := (hgetS c y hy).2 hc
      subst hj; subst hy; exact ⟨hxg, hx'⟩
  · intro c j hj
    rcases hget c j hj with ⟨hc, hj⟩ | ⟨hc, hj⟩
    · exact Nat.lt_of_lt_of_le (hs.lt c j hj) hsize
    · subst hj
      rcases hblk with h | h
      · rw [h]; exact Nat.lt_of_lt_of_le (hs.lt b i hi) hsize
      · exact h.2
  · intro k hk; exact Nat.lt_of_lt_of_le (hs.fl k hk) hsize
  · intro c y j hy hl hj hF
    rcases hget c j hj with ⟨hc, hj⟩ | ⟨hc, hj⟩
    · exact hs.nF c y j ((hgetS c y hy).1 hc) hl hj hF
    · subst hj
      rcases hblk with h | h
      · exact hs.nF b x i hb hlive hi (h ▸ hF)
      · have := hs.fl _ hF; omega
  · intro c c' y y' j j' hy hy' hl hl' hj hj' he
    rcases hget c j hj with ⟨hc, h1⟩ | ⟨hc, h1⟩ <;> rcases hget c' j' hj' with ⟨hc', h2⟩ | ⟨hc', h2⟩
    · exact hs.inj c c' y y' j j' ((hgetS c y hy).1 hc) ((hgetS c' y' hy').1 hc') hl hl' h1 h2 he
    · subst h2
      rcases hblk with h | h
      · exact absurd (hs.inj c b y x j i ((hgetS c y hy).1 hc) hb hl hlive h1 hi (he.trans h)) hc
      · have := hs.lt c j h1; omega
    · subst h1
      rcases hblk with h | h
      · exact absurd (hs.inj c' b y' x j' i ((hgetS c' y' hy').1 hc') hb hl' hlive h2 hi (he.symm.trans h)) hc'
      · have := hs.lt c' j' h2; omega
    · omega

/-- The world has drawn; nothing else. -/
theorem Keeps.same {w' : World} (h : w'.heap = w.heap) : Keeps β F w β F w' :=
  ⟨fun _ h => h, fun k _ _ => by rw [h], fun _ i h => ⟨i, h, Nat.le_refl _, fun _ => rfl⟩⟩

theorem StoreRel.same (hs : StoreRel β F w S) {w' : World} (h : w'.heap = w.heap) : StoreRel β F w' S :=
  ⟨hs.len, fun b x i hx hi => ⟨(hs.box b x i hx hi).1, (hs.box b x i hx hi).2.keep (Keeps.same h) (by rw [h])⟩, fun b i hi => by rw [h]; exact hs.lt b i hi,
    fun k hk => by rw [h]; exact hs.fl k hk, hs.nF, hs.inj⟩

theorem Ext.same {w' : World} (h : w'.heap = w.heap) (ht : w'.tape = w.tape) (ho : w'.os = w.os) (hp : w'.output = w.output) : Ext β F w β F w' :=
  ⟨by rw [h]; exact Nat.le_refl _, ht, ho, hp, fun k _ _ => by rw [h], fun i h => .inl ⟨i, h, rfl⟩, fun _ h => h, fun _ h => .inl h, fun _ i h => ⟨i, h, Nat.le_refl _, fun _ => rfl⟩⟩

/-- A box's row. -/
theorem StoreRel.row (hs : StoreRel β F w S) {b g : Nat} {cs : List AV} (h : boxRd S b g = some cs) : ∃ ty sk i, S[b]? = some (.cells cs ty g sk) ∧ β[b]? = some i ∧ i.gen = g ∧
    BoxRel β F w i (.cells cs ty g sk) := by
  unfold boxRd at h
  split at h
  · rename_i cs' ty gen sk hb
    split at h
    · rename_i hg
      injection h with h; subst h; subst hg
      have hlt : b < β.length := by rw [← hs.len]; exact (List.getElem?_eq_some_iff.1 hb).1
      have hi : β[b]? = some β[b] := List.getElem?_eq_getElem hlt
      obtain ⟨h1, h2⟩ := hs.box b _ _ hb hi
      exact ⟨ty, sk, β[b], hb, hi, h1.symm, h2⟩
    · cases h
  · cases h

end Go.AM

namespace Go.AM

variable {P : Program} {β : Beta} {F : Fz} {w : World} {S : Store}

/-- What the model's run gives stands for what the machine gives. -/
def VOK (P : Program) (β : Beta) (F : Fz) (w : World) (s : Sem Value) (v : AV) (S' : Store) : Prop :=
  ∃ x w' β' F', s.run P w = .ok x w' ∧ Rep β' F' w' v x ∧ StoreRel β' F' w' S' ∧ Ext β F w β' F' w'

theorem VOK.here (hs : StoreRel β F w S) {s : Sem Value} {v : AV} {x : Value} (h : s.run P w = .ok x w) (hr : Rep β F w v x) : VOK P β F w s v S :=
  ⟨x, w, β, F, h, hr, hs, Ext.refl β F w⟩

mutual
theorem toAV_rep : ∀ (v : Value) (a : AV), toAV v = some a → Rep β F w a v ∧ a.pure = true
  | .int k n, a, h => by simp [toAV] at h; subst h; exact ⟨rfl, rfl⟩
  | .bool b, a, h => by simp [toAV] at h; subst h; exact ⟨rfl, rfl⟩
  | .string s, a, h => by simp [toAV] at h; subst h; exact ⟨⟨s, rfl, rfl⟩, rfl⟩
  | .pointer none, a, h => by simp [toAV] at h; subst h; exact ⟨rfl, rfl⟩
  | .pointer (some _), a, h => by simp [toAV] at h
  | .slice none 0 0, a, h => by simp [toAV] at h; subst h; exact ⟨rfl, rfl⟩
  | .slice (some _) _ _, a, h => by simp [toAV] at h
  | .slice none (_ + 1) _, a, h => by simp [toAV] at h
  | .slice none 0 (_ + 1), a, h => by simp [toAV] at h
  | .map none, a, h => by simp [toAV] at h; subst h; exact ⟨rfl, rfl⟩
  | .map (some _), a, h => by simp [toAV] at h
  | .nilFunc, a, h => by simp [toAV] at h; subst h; exact ⟨rfl, rfl⟩
  | .nilIface, a, h => by simp [toAV] at h; subst h; exact ⟨rfl, rfl⟩
  | .agg ⟨cs⟩, a, h => by
    simp only [toAV] at h
    cases hc : toAVs cs with
    | none => simp [hc] at h
    | some l =>
      simp only [hc, Option.map_some] at h
      split at h
      · injection h with h; subst h
        obtain ⟨h1, h2⟩ := toAVs_rep cs l hc
        refine ⟨⟨_, rfl, h1, ?_⟩, by simpa [AV.pure] using h2⟩
        rename_i ho
        simpa using ho
      · cases h
  | .tuple ⟨cs⟩, a, h => by
    simp only [toAV] at h
    cases hc : toAVs cs with
    | none => simp [hc] at h
    | some l =>
      simp only [hc, Option.map_some, Option.some.injEq] at h
      subst h
      obtain ⟨h1, h2⟩ := toAVs_rep cs l hc
      exact ⟨⟨_, rfl, h1⟩, by simpa [AV.pure] using h2⟩
  | .float _ _, a, h => by simp [toAV] at h
  | .complex _ _ _, a, h => by simp [toAV] at h
  | .chan _, a, h => by simp [toAV] at h
  | .func _ _ _, a, h => by simp [toAV] at h
  | .iface _ _, a, h => by simp [toAV] at h
theorem toAVs_rep : ∀ (v : List Value) (a : List AV), toAVs v = some a → RepL β F w a v ∧ pureL a = true
  | [], a, h => by simp [toAVs] at h; subst h; exact ⟨rfl, rfl⟩
  | v :: vs, a, h => by
    simp only [toAVs] at h
    split at h
    · rename_i x xs hx hxs
      injection h with h; subst h
      obtain ⟨h1, h2⟩ := toAV_rep v x hx
      obtain ⟨h3, h4⟩ := toAVs_rep vs xs hxs
      exact ⟨⟨v, vs, rfl, h1, h3⟩, by simp [pureL, h2, h4]⟩
    · cases h
end

/-- The variables that the machine knows are as it is told. -/
def GlobOK (G : Globs) (F : Fz) (w : World) : Prop := ∀ n cells, G n = some cells → F n ∧ pureL cells = true ∧ RepAt [] F w cells n 0

/-- Slots. -/
def EnvRel (β : Beta) (F : Fz) (w : World) (e : Env) (ρ : Nat → Value) : Prop := ∀ i, Rep β F w (e.get i) (ρ i)

theorem opd_rep {G : Globs} {e : Env} {a : Act} (hG : GlobOK G F w) (he : EnvRel β F w e (fun i => a.tmps.getD i undef)) {x : Operand} {cx : Opd} (h : cOpd x = some cx) :
    Rep β F w (cx.ev G e) (a.eval x) := by
  cases x with
  | tmp t => simp [cOpd] at h; subst h; exact he t
  | const v =>
    simp only [cOpd, Option.map_eq_some_iff] at h
    obtain ⟨b, hb, rfl⟩ := h
    exact (toAV_rep v b hb).1
  | global g =>
    simp [cOpd] at h; subst h
    simp only [Opd.ev]
    cases hg : G g with
    | none => trivial
    | some cells =>
      obtain ⟨h1, h2, h3⟩ := hG g cells hg
      exact ⟨g, 0, rfl, h1, RepAt.pure β cells g 0 h2 h3⟩
  | func f =>
    simp [cOpd] at h; subst h
    exact ⟨#[], #[], rfl, rfl, rfl⟩

/-- Operands stand for operands. -/
def OpdRel (G : Globs) (β : Beta) (F : Fz) (w : World) (e : Env) (ρ : Operand → Value) : Prop := ∀ x cx, cOpd x = some cx → Rep β F w (cx.ev G e) (ρ x)

theorem opds_rep {G : Globs} {e : Env} {ρ : Operand → Value} (h : OpdRel G β F w e ρ) : ∀ (xs : List Operand) (cs : List Opd), cOpds xs = some cs →
    RepL β F w (cs.map (·.ev G e)) (xs.map ρ)
  | [], cs, hc => by simp [cOpds] at hc; subst hc; rfl
  | x :: xs, cs, hc => by
    simp only [cOpds] at hc
    split at hc
    · rename_i a as ha has
      injection hc with hc; subst hc
      exact ⟨_, _, rfl, h x a ha, opds_rep h xs as has⟩
    · cases hc

theorem natOf_rep {v : AV} {x : Value} {n : Nat} (h : natOf v = some n) (hr : Rep β F w v x) : ∃ k m, v = .int k m ∧ x = .int k m ∧ 0 ≤ m ∧ n = m.toNat := by
  cases v <;> simp [natOf] at h
  rename_i k m
  exact ⟨k, m, rfl, hr, h.1, h.2.symm⟩

theorem bool_rep {b : Bool} {x : Value} (hr : Rep β F w (.bool b) x) : x = .bool b := hr
theorem int_rep {k : IntKind} {n : Int} {x : Value} (hr : Rep β F w (.int k n) x) : x = .int k n := hr

/-- A part of a row of values. -/
theorem part_run {t n off : Nat} {g : Bool} {cs : List AV} {a : Array Value} {v : AV} (hn : tSize P t = some n) (hg : tAgg P t = some g) (hc : cut cs off n g = some v)
    (hr : RepL β F w cs a.toList) (ho : ∀ y ∈ a.toList, y.oneCell' = true) : ∃ y, (part t a off).run P w = .ok y w ∧ Rep β F w v y := by
  unfold part
  simp only [Sem.run_bind, run_isAgg hg, Result.andThen_ok]
  cases g with
  | true =>
    simp only [cut, if_true] at hc
    split at hc
    · injection hc with hc; subst hc
      refine ⟨.agg (a.extract off (off + n)), by simp [run_sizeOf hn], ?_⟩
      refine ⟨_, rfl, ?_, ?_⟩
      · have := RepL.take n (RepL.drop off hr)
        rw [Array.toList_extract, List.extract_eq_take_drop]
        rw [show off + n - off = n by omega]; exact this
      · intro y hy
        rw [Array.toList_extract, List.extract_eq_take_drop] at hy
        exact ho y (List.mem_of_mem_drop (List.mem_of_mem_take hy))
    · cases hc
  | false =>
    simp only [cut, Bool.false_eq_true, if_false] at hc
    obtain ⟨y, hy, hry⟩ := RepL.get hr off v hc
    refine ⟨y, ?_, hry⟩
    have : a[off]? = some y := by rw [← Array.getElem?_toList]; exact hy
    simp [this]

/-- A variable is read. -/
theorem loadVar_run {t n blk off : Nat} {g : Bool} {cs : List AV} {v : AV} {o : Nat} (hn : tSize P t = some n) (hg : tAgg P t = some g) (hc : cut cs o n g = some v)
    (hr : RepAt β F w cs blk off) : ∃ y, (loadVar t ⟨blk, off + o, none⟩).run P w = .ok y w ∧ Rep β F w v y := by
  unfold loadVar
  simp only [Sem.run_bind, run_isAgg hg, Result.andThen_ok]
  cases g with
  | true =>
    simp only [cut, if_true] at hc
    split at hc
    · rename_i hle
      injection hc with hc; subst hc
      obtain ⟨vs, h1, h2, h3⟩ := RepAt.list (RepAt.take n (RepAt.drop o hr))
      have hlen : vs.length = n := by rw [RepL.length h1]; simp; omega
      refine ⟨.agg vs.toArray, ?_, _, rfl, by simpa using h1, by simpa using h2⟩
      simp [run_sizeOf hn, loadCells_run hlen h3]
    · cases hc
  | false =>
    simp only [cut, Bool.false_eq_true, if_false] at hc
    obtain ⟨y, hy, _, hry⟩ := RepAt.get hr o v hc
    exact ⟨y, by simp [hy], hry⟩

end Go.AM

set_option linter.unusedSimpArgs false
namespace Go.AM

variable {P : Program} {β : Beta} {F : Fz} {w : World} {S : Store}

theorem eqGuard_pass {op : BinOp} {t : Nat} {x y : Operand} {a b : Value}
    (h : match a, b with | .nilIface, .nilIface => False | .agg _, .agg _ => False | _, _ => True) : (eqGuard op t x y a b).run P w = .ok () w := by
  unfold eqGuard
  cases op <;> simp <;> (split <;> simp_all)

theorem binInt_run {op : BinOp} {k : IntKind} {a b : Int} {v : AV} (t : Nat) (h : binInt op k a b = some v) :
    ∃ y, (binOp op t (.int k a) (.int k b)).run P w = .ok y w ∧ Rep β F w v y := by
  cases op <;> simp only [binInt] at h
  case quo =>
    split at h
    · cases h
    · rename_i hb; injection h with h; subst h
      exact ⟨_, by simp [binOp, Op.intDiv, hb], rfl⟩
  case rem =>
    split at h
    · cases h
    · rename_i hb; injection h with h; subst h
      exact ⟨_, by simp [binOp, Op.intDiv, hb], rfl⟩
  all_goals first
    | (injection h with h; subst h; exact ⟨_, by simp [binOp, Op.intArith, Op.intBits, Op.intCmp], rfl⟩)
    | cases h

theorem binStr_run {op : BinOp} {a b : ByteArray} {v : AV} (t : Nat) (h : binStr op a.data.toList b.data.toList = some v) :
    ∃ y, (binOp op t (.string a) (.string b)).run P w = .ok y w ∧ Rep β F w v y := by
  have hsz : ∀ x : ByteArray, x.data.toList.length = x.size := fun x => by simp
  cases op <;> simp only [binStr] at h
  case add =>
    split at h
    · rename_i hlt; injection h with h; subst h
      rw [hsz, hsz] at hlt
      refine ⟨.string (a ++ b), ?_, _, rfl, by simp⟩
      have : ¬ (((a.size + b.size : Nat) : Int) > IntKind.i64.max) := by simp [IntKind.max, IntKind.signed, IntKind.bits]; omega
      simp only [binOp, Op.stringOp, this, if_false]; rfl
    · cases h
  all_goals first
    | (injection h with h; subst h; exact ⟨_, by simp only [binOp, Op.stringOp]; rfl, by simp [Rep, ByteArray.toList_eq]⟩)
    | cases h

theorem shift_run {k j : IntKind} {a b : Int} (t : Nat) (hb : ¬ b < 0) :
    (binOp .shl t (.int k a) (.int j b)).run P w = .ok (.int k (k.wrap (a * 2 ^ (min b.toNat k.bits)))) w ∧
    (binOp .shr t (.int k a) (.int j b)).run P w = .ok (.int k (a.fdiv (2 ^ (min b.toNat k.bits)))) w := by
  constructor <;> simp [binOp, Op.shift, hb]

theorem binV_run {op : BinOp} {a b v : AV} {x y : Value} (t : Nat) (u : Operand) (z : Operand) (h : binV op a b = some v) (ha : Rep β F w a x) (hb : Rep β F w b y) :
    ∃ r, ((do eqGuard op t u z x y; binOp op t x y) : Sem Value).run P w = .ok r w ∧ Rep β F w v r := by
  unfold binV at h
  split at h
  · rename_i k m j n
    have hx := int_rep ha; have hy := int_rep hb; subst hx; subst hy
    simp only [Sem.run_bind, eqGuard_pass (P := P) (w := w) (op := op) (t := t) (x := u) (y := z) (a := .int k m) (b := .int j n) trivial, Result.andThen_ok]
    split at h
    · split at h
      · cases h
      · rename_i hn; injection h with h; subst h
        exact ⟨_, (shift_run t hn).1, rfl⟩
    · split at h
      · cases h
      · rename_i hn; injection h with h; subst h
        exact ⟨_, (shift_run t hn).2, rfl⟩
    · split at h
      · rename_i hk; subst hk; exact binInt_run t h
      · cases h
  · rename_i s r
    obtain ⟨s', hx, hs⟩ := ha; obtain ⟨r', hy, hr⟩ := hb; subst hx; subst hy; subst hs; subst hr
    simp only [Sem.run_bind, eqGuard_pass (P := P) (w := w) (op := op) (t := t) (x := u) (y := z) (a := .string s') (b := .string r') trivial, Result.andThen_ok]
    exact binStr_run t h
  · cases h

theorem unV_run {op : UnOp} {a v : AV} {x : Value} (h : unV op a = some v) (ha : Rep β F w a x) : ∃ r, (Op.unary op x).run P w = .ok r w ∧ Rep β F w v r := by
  unfold unV at h
  split at h
  · injection h with h; subst h; have := int_rep ha; subst this; exact ⟨_, by simp [Op.unary, Op.intArith], rfl⟩
  · injection h with h; subst h; have := int_rep ha; subst this; exact ⟨_, by simp [Op.unary, Op.intBits], rfl⟩
  · injection h with h; subst h; have := bool_rep ha; subst this; exact ⟨_, by simp [Op.unary], rfl⟩
  · cases h

/-- What two values of a kind are to each other, where that is plain. -/
def eqStep : TypeDesc → Value → Value → Option Bool
  | .pointer _, .pointer none, .pointer b => some b.isNone
  | .pointer _, .pointer (some _), .pointer none => some false
  | .slice _, .slice none _ _, .slice b _ _ => some b.isNone
  | .slice _, .slice (some _) _ _, .slice none _ _ => some false
  | .map _ _, .map none, .map b => some b.isNone
  | .map _ _, .map (some _), .map none => some false
  | .func _ _ _, .nilFunc, .nilFunc => some true
  | .func _ _ _, .func _ _ _, .nilFunc => some false
  | .interface _, .nilIface, .nilIface => some true
  | .interface _, .iface _ _, .nilIface => some false
  | .bool, .bool a, .bool b => some (a == b)
  | _, _, _ => none

theorem equal_step {t : Nat} {d : TypeDesc} {x y : Value} {r : Bool} (hd : P.underlying t = some d) (h : eqStep d x y = some r) : (Op.equal t x y).run P w = .ok r w := by
  unfold Op.equal Op.maxDepth
  rw [Op.equalIn]
  simp only [Sem.run_bind, run_underlying hd, Result.andThen_ok]
  unfold eqStep at h
  split at h <;> first | (injection h with h; subst h; first | rfl | simp) | cases h

/-- No number, no string, no struct. -/
def plainV : Value → Bool
  | .int _ _ | .float _ _ | .complex _ _ _ | .string _ | .agg _ => false
  | _ => true

theorem binOp_eq {t : Nat} {x y : Value} {r : Bool} (hx : plainV x = true) (h : (Op.equal t x y).run P w = .ok r w) :
    (binOp .eql t x y).run P w = .ok (.bool r) w ∧ (binOp .neq t x y).run P w = .ok (.bool (!r)) w := by
  constructor <;> (cases x <;> first | (simp [plainV] at hx; done) | (simp [binOp, h]))

theorem eqGuard_const {op : BinOp} {t : Nat} {x : Operand} {c : Value} {a b : Value} (hx : plainV a = true) :
    (eqGuard op t x (.const c) a b).run P w = .ok () w := by
  unfold eqGuard
  cases a <;> first | (simp [plainV] at hx; done) | (cases op <;> cases b <;> simp)

theorem nilq_fin {t : Nat} {x : Operand} {b : Bool} {X Y : Value} (hx : plainV X = true) (he : (Op.equal t X Y).run P w = .ok b w) :
    ((do eqGuard .eql t x (.const Y) X Y; binOp .eql t X Y) : Sem Value).run P w = .ok (.bool b) w ∧
    ((do eqGuard .neq t x (.const Y) X Y; binOp .neq t X Y) : Sem Value).run P w = .ok (.bool (!b)) w := by
  have h1 : ∀ op, (eqGuard op t x (.const Y) X Y).run P w = .ok () w := fun op => eqGuard_const hx
  have h2 := binOp_eq (P := P) (w := w) (t := t) (x := X) (y := Y) (r := b) hx he
  exact ⟨by simp [h1, h2.1], by simp [h1, h2.2]⟩

theorem nilVal0 {Y : Value} (h : isNilVal 0 (.const Y) = true) : Y = .pointer none := by
  cases Y <;> simp [isNilVal] at h ⊢
  rename_i a; cases a <;> simp_all [isNilVal]
theorem nilVal1 {Y : Value} (h : isNilVal 1 (.const Y) = true) : ∃ a b, Y = .slice none a b := by
  cases Y <;> simp [isNilVal] at h ⊢
  rename_i a _ _; cases a <;> simp_all [isNilVal]
theorem nilVal2 {Y : Value} (h : isNilVal 2 (.const Y) = true) : Y = .map none := by
  cases Y <;> simp [isNilVal] at h ⊢
  rename_i a; cases a <;> simp_all [isNilVal]
theorem nilVal3 {Y : Value} (h : isNilVal 3 (.const Y) = true) : Y = .nilFunc := by
  cases Y <;> simp [isNilVal] at h ⊢
theorem nilVal4 {Y : Value} (h : isNilVal 4 (.const Y) = true) : Y = .nilIface := by
  cases Y <;> simp [isNilVal] at h ⊢

theorem isNil0 {a : AV} {b : Bool} {X : Value} (h : isNil 0 a = some b) (ha : Rep β F w a X) : plainV X = true ∧ ∀ e, eqStep (.pointer e) X (.pointer none) = some b := by
  cases a <;> simp [isNil] at h
  case np => subst h; cases ha; exact ⟨rfl, fun _ => rfl⟩
  case ptr => subst h; obtain ⟨i, a, _, _, rfl, _⟩ := ha; exact ⟨rfl, fun _ => rfl⟩
  case fptr => subst h; obtain ⟨i, a, rfl, _⟩ := ha; exact ⟨rfl, fun _ => rfl⟩
theorem isNil1 {a : AV} {b : Bool} {X : Value} (h : isNil 1 a = some b) (ha : Rep β F w a X) : plainV X = true ∧ ∀ e m n, eqStep (.slice e) X (.slice none m n) = some b := by
  cases a <;> simp [isNil] at h
  case nsl => subst h; cases ha; exact ⟨rfl, fun _ _ _ => rfl⟩
  case sl => subst h; obtain ⟨i, a, c, _, _, rfl, _⟩ := ha; exact ⟨rfl, fun _ _ _ => rfl⟩
  case fsl cs n =>
    cases cs with
    | nil => simp [isNil] at h
    | cons x r =>
      simp [isNil] at h; subst h
      obtain ⟨a, c, rfl, _, hr⟩ := ha
      rcases hr with hr | ⟨blk, off, rfl, _⟩
      · simp at hr
      · exact ⟨rfl, fun _ _ _ => rfl⟩
theorem isNil2 {a : AV} {b : Bool} {X : Value} (h : isNil 2 a = some b) (ha : Rep β F w a X) : plainV X = true ∧ ∀ e f, eqStep (.map e f) X (.map none) = some b := by
  cases a <;> simp [isNil] at h
  case nmap => subst h; cases ha; exact ⟨rfl, fun _ _ => rfl⟩
  case map => subst h; obtain ⟨i, a, _, _, rfl, _⟩ := ha; exact ⟨rfl, fun _ _ => rfl⟩
theorem isNil3 {a : AV} {b : Bool} {X : Value} (h : isNil 3 a = some b) (ha : Rep β F w a X) : plainV X = true ∧ ∀ e f g, eqStep (.func e f g) X .nilFunc = some b := by
  cases a <;> simp [isNil] at h
  case nfn => subst h; cases ha; exact ⟨rfl, fun _ _ _ => rfl⟩
  case fn => subst h; obtain ⟨i, a, rfl, _⟩ := ha; exact ⟨rfl, fun _ _ _ => rfl⟩
theorem isNil4 {a : AV} {b : Bool} {X : Value} (h : isNil 4 a = some b) (ha : Rep β F w a X) : plainV X = true ∧ ∀ e, eqStep (.interface e) X .nilIface = some b := by
  cases a <;> simp [isNil] at h
  case nif => subst h; cases ha; exact ⟨rfl, fun _ => rfl⟩
  case iface => subst h; obtain ⟨i, rfl, _⟩ := ha; exact ⟨rfl, fun _ => rfl⟩

theorem nilq_run {t k : Nat} {x : Operand} {a : AV} {b : Bool} {X Y : Value} (hk : nilKind P t = some k) (hy : isNilVal k (.const Y) = true)
    (h : isNil k a = some b) (ha : Rep β F w a X) :
    ((do eqGuard .eql t x (.const Y) X Y; binOp .eql t X Y) : Sem Value).run P w = .ok (.bool b) w ∧
    ((do eqGuard .neq t x (.const Y) X Y; binOp .neq t X Y) : Sem Value).run P w = .ok (.bool (!b)) w := by
  unfold nilKind at hk
  split at hk <;> (try (cases hk; done))
  all_goals (injection hk with hk; subst hk; rename_i hd)
  · obtain rfl := nilVal0 hy
    obtain ⟨h1, h2⟩ := isNil0 h ha
    exact nilq_fin h1 (equal_step hd (h2 _))
  · obtain ⟨m, n, rfl⟩ := nilVal1 hy
    obtain ⟨h1, h2⟩ := isNil1 h ha
    exact nilq_fin h1 (equal_step hd (h2 _ _ _))
  · obtain rfl := nilVal2 hy
    obtain ⟨h1, h2⟩ := isNil2 h ha
    exact nilq_fin h1 (equal_step hd (h2 _ _))
  · obtain rfl := nilVal3 hy
    obtain ⟨h1, h2⟩ := isNil3 h ha
    exact nilq_fin h1 (equal_step hd (h2 _ _ _))
  · obtain rfl := nilVal4 hy
    obtain ⟨h1, h2⟩ := isNil4 h ha
    exact nilq_fin h1 (equal_step hd (h2 _))

end Go.AM

set_option linter.unusedSimpArgs false
set_option linter.unusedVariables false
namespace Go.AM

variable {P : Program} {β : Beta} {F : Fz} {w : World} {S : Store}

theorem asIntOf_int {k : IntKind} {n : Int} : (asIntOf (.int k n)).run P w = .ok (k, n) w := rfl

theorem field_run {t n i : Nat} {fs : Array Field} {f : Field} {g : Bool} {cs : List AV} {v : AV} {x : Value} (ht : P.underlying t = some (.struct fs)) (hf : fs[i]? = some f)
    (hn : tSize P f.type = some n) (hg : tAgg P f.type = some g) (hc : cut cs f.offset n g = some v) (hx : Rep β F w (.agg cs) x) :
    ∃ y, (Instr.field t x i).run P w = .ok y w ∧ Rep β F w v y := by
  obtain ⟨a, rfl, hr, ho⟩ := hx
  obtain ⟨y, hy, hv⟩ := part_run (off := f.offset) hn hg hc hr ho
  refine ⟨y, ?_, hv⟩
  simp [Instr.field, run_underlying ht, hf, asAgg, hy]

theorem idxA_run {t len e sz i : Nat} {g : Bool} {cs : List AV} {v : AV} {x y : Value} {iv : AV} (ht : P.underlying t = some (.array len e))
    (hn : tSize P e = some sz) (hg : tAgg P e = some g) (hi : natOf iv = some i) (hlt : i < len) (hc : cut cs (i * sz) sz g = some v) (hx : Rep β F w (.agg cs) x) (hy : Rep β F w iv y) :
    ∃ r, (Instr.index t x y).run P w = .ok r w ∧ Rep β F w v r := by
  obtain ⟨k, m, rfl, rfl, h0, rfl⟩ := natOf_rep hi hy
  obtain ⟨a, rfl, hr, ho⟩ := hx
  obtain ⟨r, hrr, hv⟩ := part_run (off := m.toNat * sz) hn hg hc hr ho
  refine ⟨r, ?_, hv⟩
  have hlt' : m < (len : Int) := by omega
  simp [Instr.index, asIntOf, run_underlying ht, h0, hlt', run_sizeOf hn, hrr]

theorem idxS_run {t i : Nat} {s : List UInt8} {c : UInt8} {x y : Value} {iv : AV} (ht : P.underlying t = some .string) (hi : natOf iv = some i) (hc : s[i]? = some c)
    (hx : Rep β F w (.str s) x) (hy : Rep β F w iv y) : (Instr.index t x y).run P w = .ok (.int .u8 c.toNat) w := by
  obtain ⟨k, m, rfl, rfl, h0, rfl⟩ := natOf_rep hi hy
  obtain ⟨b, rfl, rfl⟩ := hx
  have hb : b[m.toNat]? = some c := by
    have hlt := (List.getElem?_eq_some_iff.1 hc).1
    have hlt' : m.toNat < b.size := by simpa using hlt
    rw [getElem?_pos b m.toNat hlt']
    have := (List.getElem?_eq_some_iff.1 hc).2
    rw [← this]; rfl
  simp [Instr.index, asIntOf, run_underlying ht, h0, hb]

theorem extr_run {i : Nat} {vs : List AV} {v : AV} {x : Value} (hi : vs[i]? = some v) (hx : Rep β F w (.tup vs) x) : ∃ y, (Instr.extract x i).run P w = .ok y w ∧ Rep β F w v y := by
  obtain ⟨a, rfl, hr⟩ := hx
  obtain ⟨y, hy, hv⟩ := RepL.get hr i v hi
  refine ⟨y, ?_, hv⟩
  have : a[i]? = some y := by rw [← Array.getElem?_toList]; exact hy
  simp [Instr.extract, this]

theorem RepL.set {x : List AV} {v : List Value} {a : AV} {y : Value} (h : RepL β F w x v) (ha : Rep β F w a y) : ∀ i, RepL β F w (x.set i a) (v.set i y) := by
  induction x generalizing v with
  | nil => intro i; rw [show v = [] from h]; simp [RepL]
  | cons c cs ih =>
    intro i
    obtain ⟨u, r, rfl, hu, hr⟩ := h
    cases i with
    | zero => exact ⟨y, r, rfl, ha, hr⟩
    | succ i => exact ⟨u, r.set i y, rfl, hu, ih hr i⟩

/-- The cells of a value. -/
theorem cells_rep {v : AV} {x : Value} (hs : v.solid = true) (h : Rep β F w v x) : RepL β F w v.parts x.cells.toList ∧ ∀ y ∈ x.cells.toList, y.oneCell' = true := by
  cases v <;> simp [AV.solid] at hs
  case agg cs => obtain ⟨a, rfl, hr, ho⟩ := h; exact ⟨hr, ho⟩
  case int => cases h; exact ⟨⟨_, _, rfl, rfl, rfl⟩, by simp [Value.cells, Value.oneCell']⟩
  case bool => cases h; exact ⟨⟨_, _, rfl, rfl, rfl⟩, by simp [Value.cells, Value.oneCell']⟩
  case np => cases h; exact ⟨⟨_, _, rfl, rfl, rfl⟩, by simp [Value.cells, Value.oneCell']⟩
  case nsl => cases h; exact ⟨⟨_, _, rfl, rfl, rfl⟩, by simp [Value.cells, Value.oneCell']⟩
  case nmap => cases h; exact ⟨⟨_, _, rfl, rfl, rfl⟩, by simp [Value.cells, Value.oneCell']⟩
  case nfn => cases h; exact ⟨⟨_, _, rfl, rfl, rfl⟩, by simp [Value.cells, Value.oneCell']⟩
  case nif => cases h; exact ⟨⟨_, _, rfl, rfl, rfl⟩, by simp [Value.cells, Value.oneCell']⟩
  case str => obtain ⟨t, rfl, ht⟩ := h; exact ⟨⟨_, _, rfl, ⟨t, rfl, ht⟩, rfl⟩, by simp [Value.cells, Value.oneCell']⟩
  case ptr => obtain ⟨i, a, h1, h2, rfl, h3⟩ := h; exact ⟨⟨_, _, rfl, ⟨i, a, h1, h2, rfl, h3⟩, rfl⟩, by simp [Value.cells, Value.oneCell']⟩
  case fptr => obtain ⟨i, a, rfl, h3⟩ := h; exact ⟨⟨_, _, rfl, ⟨i, a, rfl, h3⟩, rfl⟩, by simp [Value.cells, Value.oneCell']⟩
  case esl => obtain ⟨a, rfl⟩ := h; exact ⟨⟨_, _, rfl, ⟨a, rfl⟩, rfl⟩, by simp [Value.cells, Value.oneCell']⟩
  case sl => obtain ⟨i, a, c, h1, h2, rfl, h3⟩ := h; exact ⟨⟨_, _, rfl, ⟨i, a, c, h1, h2, rfl, h3⟩, rfl⟩, by simp [Value.cells, Value.oneCell']⟩
  case fsl => obtain ⟨a, c, rfl, h3⟩ := h; exact ⟨⟨_, _, rfl, ⟨a, c, rfl, h3⟩, rfl⟩, by simp [Value.cells, Value.oneCell']⟩
  case map => obtain ⟨i, a, h1, h2, rfl, h3⟩ := h; exact ⟨⟨_, _, rfl, ⟨i, a, h1, h2, rfl, h3⟩, rfl⟩, by simp [Value.cells, Value.oneCell']⟩
  case fn => obtain ⟨a, b, rfl, h3⟩ := h; exact ⟨⟨_, _, rfl, ⟨a, b, rfl, h3⟩, rfl⟩, by simp [Value.cells, Value.oneCell']⟩
  case iface => obtain ⟨y, rfl, h3⟩ := h; exact ⟨⟨_, _, rfl, ⟨y, rfl, h3⟩, rfl⟩, by simp [Value.cells, Value.oneCell']⟩

theorem wrl_rep : ∀ (vs : List AV) {ys : List Value} {cs : List AV} {xs : List Value} (off : Nat), RepL β F w vs ys → RepL β F w cs xs →
    RepL β F w (wrl cs off vs) ((ys.zipIdx.foldl (fun l p => l.set (off + p.2) p.1) xs))
  | [], ys, cs, xs, off, hv, hc => by rw [show ys = [] from hv]; exact hc
  | v :: vs, ys, cs, xs, off, hv, hc => by
    obtain ⟨y, r, rfl, hy, hr⟩ := hv
    have h1 := RepL.set hc hy off
    have h2 := wrl_rep vs (off + 1) hr h1
    simp only [wrl, List.zipIdx_cons, List.foldl_cons, Nat.add_zero]
    have : (r.zipIdx (0 + 1)).foldl (fun l p => l.set (off + p.2) p.1) (xs.set off y) = (r.zipIdx).foldl (fun l p => l.set (off + 1 + p.2) p.1) (xs.set off y) := by
      rw [List.zipIdx_succ, List.foldl_map]
      congr 1; funext l p; rw [show off + (p.2 + 1) = off + 1 + p.2 by omega]
    rw [this]; exact h2

theorem foldl_set_one {ys : List (Value × Nat)} {xs : List Value} {off : Nat} (hy : ∀ p ∈ ys, p.1.oneCell' = true) (hx : ∀ x ∈ xs, x.oneCell' = true) :
    ∀ x ∈ ys.foldl (fun l p => l.set (off + p.2) p.1) xs, x.oneCell' = true := by
  induction ys generalizing xs with
  | nil => simpa using hx
  | cons p ys ih =>
    simp only [List.foldl_cons]
    exact ih (fun q hq => hy q (by simp [hq])) fun x hx' => by
      rcases List.mem_or_eq_of_mem_set hx' with h | h
      · exact hx x h
      · rw [h]; exact hy p (by simp)

theorem foldl_arr (ys : List (Value × Nat)) (a : Array Value) (off : Nat) :
    (ys.foldl (fun cs p => cs.setIfInBounds (off + p.2) p.1) a).toList = ys.foldl (fun l p => l.set (off + p.2) p.1) a.toList := by
  induction ys generalizing a with
  | nil => rfl
  | cons p ys ih => simp only [List.foldl_cons]; rw [ih]; simp

/-- Parts are laid into a row. -/
theorem fill_run (place : Nat → Option (Nat × Nat)) : ∀ (ps : List (Nat × Value)) (qs : List (Nat × Nat × AV)) (a : Array Value) (cs r : List AV),
    qs.length = ps.length → (∀ (j : Nat) (p : Nat × Value) (q : Nat × Nat × AV), ps[j]? = some p → qs[j]? = some q → place p.1 = some (q.1, q.2.1) ∧ Rep β F w q.2.2 p.2) →
    RepL β F w cs a.toList → (∀ y ∈ a.toList, y.oneCell' = true) → fillP cs qs = some r →
    ∃ b, Instr.fill place a ps = some b ∧ RepL β F w r b.toList ∧ ∀ y ∈ b.toList, y.oneCell' = true
  | [], qs, a, cs, r, hl, _, hc, ho, hf => by
    have : qs = [] := List.length_eq_zero_iff.1 hl
    subst this; simp [fillP] at hf; subst hf; exact ⟨a, rfl, hc, ho⟩
  | (i, v) :: ps, [], a, cs, r, hl, _, _, _, _ => by simp at hl
  | (i, v) :: ps, (off, n, q) :: qs, a, cs, r, hl, h, hc, ho, hf => by
    obtain ⟨hp, hq⟩ := h 0 _ _ rfl rfl
    simp only [fillP] at hf
    split at hf
    · rename_i hcond
      obtain ⟨hs, hlen, hle⟩ := hcond
      obtain ⟨h1, h2⟩ := cells_rep hs hq
      have hsz : v.cells.size = n := by rw [← hlen, ← RepL.length h1]; simp
      have hasz : a.size = cs.length := by rw [← RepL.length hc]; simp
      simp only at hp hq
      have key := foldl_arr v.cells.toList.zipIdx a off
      obtain ⟨b, hb, hrb⟩ := fill_run place ps qs (v.cells.zipIdx.foldl (fun cs (c, j) => cs.setIfInBounds (off + j) c) a) (wrl cs off q.parts) r (by simpa using hl)
        (fun j p q hp hq => h (j + 1) p q (by simpa using hp) (by simpa using hq))
        (by
          rw [← Array.foldl_toList, Array.toList_zipIdx]
          rw [key]; exact wrl_rep q.parts off h1 hc)
        (by
          rw [← Array.foldl_toList, Array.toList_zipIdx]
          rw [key]; exact foldl_set_one (fun p hp => h2 p.1 (by
            have := List.mem_zipIdx hp
            simp at this; rw [this.2]; simp)) ho) hf
      refine ⟨b, ?_, hrb⟩
      simp only [Instr.fill, hp]
      have hcnd : ¬ ((v.cells.size ≠ n || decide (off + v.cells.size > a.size)) = true) := by simp [hsz, hasz]; omega
      rw [if_neg (by simpa using hcnd)]; exact hb
    · cases hf

end Go.AM

set_option linter.unusedSimpArgs false
set_option linter.unusedVariables false
namespace Go.AM

variable {P : Program} {β : Beta} {F : Fz} {w : World} {S : Store} {G : Globs} {e : Env} {ρ : Operand → Value}

theorem mapM_sizes : ∀ (fs : List Field), fieldSizes P fs = true →
    (fs.mapM (m := Sem) fun f => do pure (f.offset, ← sizeOf f.type)).run P w = .ok (fs.map fun f => (f.offset, (tSize P f.type).getD 0)) w
  | [], _ => by simp
  | f :: fs, h => by
    simp only [fieldSizes, List.all_cons, Bool.and_eq_true] at h
    obtain ⟨n, hn⟩ := Option.isSome_iff_exists.1 h.1
    have ih := mapM_sizes fs (by simpa [fieldSizes] using h.2)
    simp only [List.mapM_cons, Sem.run_bind, run_sizeOf hn, Result.andThen_ok, Sem.run_pure, ih]
    simp [hn]

theorem cPlaces_get : ∀ (fs : List Field) (ps : List (Nat × Operand)) (qs : List (Nat × Nat × Opd)), cPlaces P fs ps = some qs →
    qs.length = ps.length ∧ ∀ (j : Nat) (p : Nat × Operand) (q : Nat × Nat × Opd), ps[j]? = some p → qs[j]? = some q →
      ∃ f, fs[p.1]? = some f ∧ q.1 = f.offset ∧ tSize P f.type = some q.2.1 ∧ cOpd p.2 = some q.2.2
  | fs, [], qs, h => by simp [cPlaces] at h; subst h; simp
  | fs, (i, x) :: ps, qs, h => by
    simp only [cPlaces] at h
    split at h
    · cases h
    · rename_i f hf
      split at h
      · rename_i n a as hn ha has
        injection h with h; subst h
        obtain ⟨h1, h2⟩ := cPlaces_get fs ps as has
        refine ⟨by simp [h1], fun j p q hp hq => ?_⟩
        cases j with
        | zero => simp at hp hq; subst hp; subst hq; exact ⟨f, hf, rfl, hn, ha⟩
        | succ j => exact h2 j p q (by simpa using hp) (by simpa using hq)
      · cases h

theorem cParts_get : ∀ (ps : List (Nat × Operand)) (qs : List (Nat × Opd)), cParts ps = some qs →
    qs.length = ps.length ∧ ∀ (j : Nat) (p : Nat × Operand) (q : Nat × Opd), ps[j]? = some p → qs[j]? = some q → q.1 = p.1 ∧ cOpd p.2 = some q.2
  | [], qs, h => by simp [cParts] at h; subst h; simp
  | (i, x) :: ps, qs, h => by
    simp only [cParts] at h
    split at h
    · rename_i a as ha has
      injection h with h; subst h
      obtain ⟨h1, h2⟩ := cParts_get ps as has
      refine ⟨by simp [h1], fun j p q hp hq => ?_⟩
      cases j with
      | zero => simp at hp hq; subst hp; subst hq; exact ⟨rfl, ha⟩
      | succ j => exact h2 j p q (by simpa using hp) (by simpa using hq)
    · cases h

theorem zero_run {t : Nat} {z : AV} (h : tZero P t = some z) : ∃ v, (zeroValue t).run P w = .ok v w ∧ Rep β F w z v ∧ z.pure = true ∧ z.solid = true := by
  unfold tZero at h
  cases hi : P.info? t with
  | none => simp [hi] at h
  | some i =>
    simp only [hi, Option.bind_some] at h
    cases hz : i.zero with
    | none => simp [hz] at h
    | some v =>
      simp only [hz, Option.bind_some] at h
      cases hv : toAV v with
      | none => simp [hv] at h
      | some z' =>
        simp only [hv, Option.bind_some] at h
        split at h
        · rename_i hs
          injection h with h; subst h
          obtain ⟨h1, h2⟩ := toAV_rep (β := β) (F := F) (w := w) v z' hv
          exact ⟨v, by simp [zeroValue, run_typeInfo hi, hz], h1, h2, hs⟩
        · cases h

/-- A type's zero value, whose cells are known. -/
theorem zero_parts {t : Nat} {z : AV} (h : tZero P t = some z) : ∃ v, (zeroValue t).run P w = .ok v w ∧ RepL β F w z.parts v.cells.toList ∧ ∀ y ∈ v.cells.toList, y.oneCell' = true := by
  obtain ⟨v, h1, h2, _, hs⟩ := zero_run (β := β) (F := F) (w := w) h
  exact ⟨v, h1, cells_rep hs h2⟩

theorem build_run {t : Nat} {fs : Array Field} {z : AV} {parts : Array (Nat × Operand)} {qs : List (Nat × Nat × Opd)} {r : List AV} (hρ : OpdRel G β F w e ρ)
    (ht : P.underlying t = some (.struct fs)) (hz : tZero P t = some z) (hf : fieldSizes P fs.toList = true) (hp : cPlaces P fs.toList parts.toList = some qs)
    (hr : fillP z.parts (qs.map fun p => (p.1, p.2.1, p.2.2.ev G e)) = some r) :
    ∃ y, (Instr.build t (parts.map fun (i, x) => (i, ρ x))).run P w = .ok y w ∧ Rep β F w (.agg r) y := by
  obtain ⟨v, hv, hc, ho⟩ := zero_parts (β := β) (F := F) (w := w) hz
  obtain ⟨hl, hg⟩ := cPlaces_get _ _ _ hp
  have hm : (fs.mapM (m := Sem) fun f => do pure (f.offset, ← sizeOf f.type)).run P w = .ok (fs.toList.map fun f => (f.offset, (tSize P f.type).getD 0)).toArray w := by
    rw [Array.mapM_eq_mapM_toList, Sem.run_map, mapM_sizes _ hf, Result.andThen_ok]
  obtain ⟨b, hb, hrb, hob⟩ := fill_run (β := β) (F := F) (w := w) (fun i => (fs.toList.map fun f => (f.offset, (tSize P f.type).getD 0)).toArray[i]?) (parts.map fun (i, x) => (i, ρ x)).toList (qs.map fun p => (p.1, p.2.1, p.2.2.ev G e))
    v.cells z.parts r (by simp [hl]) (fun j p q hp hq => by
      simp only [Array.toList_map, List.getElem?_map, Option.map_eq_some_iff] at hp hq
      obtain ⟨p', hp', rfl⟩ := hp; obtain ⟨q', hq', rfl⟩ := hq
      obtain ⟨f, h1, h2, h3, h4⟩ := hg j p' q' (by simpa using hp') hq'
      refine ⟨?_, hρ _ _ h4⟩
      have h1' : fs[p'.1]? = some f := by rw [← Array.getElem?_toList]; exact h1
      simp [h1', h2, h3]) hc ho hr
  refine ⟨.agg b, ?_, _, rfl, hrb, hob⟩
  simp only [Instr.build, Sem.run_bind, hv, Result.andThen_ok, run_underlying ht, hm]
  rw [hb]; rfl

theorem buildA_run {t n el sz : Nat} {z : AV} {parts : Array (Nat × Operand)} {qs : List (Nat × Opd)} {r : List AV} (hρ : OpdRel G β F w e ρ)
    (ht : P.underlying t = some (.array n el)) (hz : tZero P t = some z) (hn : tSize P el = some sz) (hp : cParts parts.toList = some qs)
    (hr : fillP z.parts ((qs.map fun p => (p.1 * sz, sz, p.2)).map fun p => (p.1, p.2.1, p.2.2.ev G e)) = some r) :
    ∃ y, (Instr.build t (parts.map fun (i, x) => (i, ρ x))).run P w = .ok y w ∧ Rep β F w (.agg r) y := by
  obtain ⟨v, hv, hc, ho⟩ := zero_parts (β := β) (F := F) (w := w) hz
  obtain ⟨hl, hg⟩ := cParts_get _ _ hp
  obtain ⟨b, hb, hrb, hob⟩ := fill_run (β := β) (F := F) (w := w) (fun i => some (i * sz, sz)) (parts.map fun (i, x) => (i, ρ x)).toList ((qs.map fun p => (p.1 * sz, sz, p.2)).map fun p => (p.1, p.2.1, p.2.2.ev G e))
    v.cells z.parts r (by simp [hl]) (fun j p q hp hq => by
      simp only [Array.toList_map, List.getElem?_map, Option.map_eq_some_iff] at hp hq
      obtain ⟨p', hp', rfl⟩ := hp; obtain ⟨q'', ⟨q', hq', rfl⟩, rfl⟩ := hq
      obtain ⟨h1, h4⟩ := hg j p' q' (by simpa using hp') hq'
      exact ⟨by simp [h1], hρ _ _ h4⟩) hc ho hr
  refine ⟨.agg b, ?_, _, rfl, hrb, hob⟩
  simp only [Instr.build, Sem.run_bind, hv, Result.andThen_ok, run_underlying ht, run_sizeOf hn]
  rw [hb]; rfl

/-- A new row. -/
theorem newRow_ok (hs : StoreRel β F w S) {ty : Nat} {cs : List AV} {a : Array Value} (slack : Bool) (hr : RepL β F w cs (a.toList.take cs.length)) (ho : ∀ y ∈ a.toList, y.oneCell' = true)
    (hle : cs.length ≤ a.size) (hsl : slack = false → a.size = cs.length) :
    (newRow ty a).run P w = .ok ⟨w.heap.size, 0, none⟩ (w.alloc (.cells a ty)) ∧
    StoreRel (β ++ [⟨w.heap.size, 0, a.size, 0⟩]) F (w.alloc (.cells a ty)) (S ++ [.cells cs ty 0 slack]) ∧ Ext β F w (β ++ [⟨w.heap.size, 0, a.size, 0⟩]) F (w.alloc (.cells a ty)) := by
  have hE : Ext β F w (β ++ [⟨w.heap.size, 0, a.size, 0⟩]) F (w.alloc (.cells a ty)) := Ext.push _ _ rfl
  have hg : (w.alloc (.cells a ty)).heap[w.heap.size]? = some (.cells a ty) := by rw [heap_alloc, if_pos rfl]
  refine ⟨by simp [newRow], StoreRel.push hs _ _ _ rfl rfl ?_, hE⟩
  refine ⟨?_, ?_, by simpa using hle, fun h => ⟨rfl, by simpa using hsl h⟩, ?_⟩
  · simp only [World.shape?, hg]
  · intro o _; simp only [World.frozen?, hg]; simp
  · refine RepAt.of_list (RepL.keep (hE.keeps hs) _ _ hr) (fun y hy => ho y (List.mem_of_mem_take hy)) fun k v hk => ?_
    have hk' : a.toList[k]? = some v := by
      rw [List.getElem?_take] at hk; split at hk <;> simp_all
    have : a[k]? = some v := by rw [← Array.getElem?_toList]; exact hk'
    simp only [World.cell?, hg]; simp [this]

theorem ptr_new (hs : StoreRel β F w S) {n : Nat} (w' : World) : Rep (β ++ [⟨w.heap.size, 0, n, 0⟩]) F w' (.ptr S.length 0 0) (.pointer (some ⟨w.heap.size, 0, none⟩)) :=
  ⟨⟨w.heap.size, 0, n, 0⟩, _, by rw [hs.len]; simp, Nat.le_refl _, rfl, fun _ => rfl⟩

theorem newVar_ok (hs : StoreRel β F w S) {ty : Nat} {v : Value} {cs : List AV} (hr : RepL β F w cs v.cells.toList) (ho : ∀ y ∈ v.cells.toList, y.oneCell' = true) {s : Sem Value}
    (h : s.run P w = ((newVar ty v).run P w).andThen fun a w' => .ok (.pointer (some a)) w') : VOK P β F w s (.ptr S.length 0 0) (S ++ [.cells cs ty 0 false]) := by
  have hlen : v.cells.size = cs.length := by rw [← RepL.length hr]; simp
  obtain ⟨h1, h2, h3⟩ := newRow_ok (P := P) hs (ty := ty) (cs := cs) (a := v.cells) false (by rw [List.take_of_length_le (by simp [hlen])]; exact hr) ho (by omega) (fun _ => hlen)
  exact ⟨_, _, _, F, by rw [h]; simp only [newVar, h1, Result.andThen_ok], ptr_new hs _, h2, h3⟩

theorem alloc_ok (hs : StoreRel β F w S) {t : Nat} {z : AV} (hz : tZero P t = some z) :
    VOK P β F w (Instr.alloc t true (.tuple #[])) (.ptr S.length 0 0) (S ++ [.cells z.parts t 0 false]) := by
  obtain ⟨v, hv, hc, ho⟩ := zero_parts (β := β) (F := F) (w := w) hz
  exact newVar_ok hs hc ho (by simp [Instr.alloc, hv])

theorem box_ok (hs : StoreRel β F w S) {t : Nat} {v : AV} {x : Value} (hv : v.solid = true) (hr : Rep β F w v x) :
    VOK P β F w (Instr.box t x) (.ptr S.length 0 0) (S ++ [.cells v.parts t 0 false]) := by
  obtain ⟨hc, ho⟩ := cells_rep hv hr
  exact newVar_ok hs hc ho (by simp [Instr.box])

theorem RepL.replicate {c : List AV} {v : List Value} (h : RepL β F w c v) : ∀ n, RepL β F w (List.replicate n c).flatten (List.replicate n v).flatten
  | 0 => by simp [RepL]
  | n + 1 => by
    rw [List.replicate_succ, List.replicate_succ, List.flatten_cons, List.flatten_cons]
    exact RepL.append h (RepL.replicate h n)

theorem zeros_list (z : Array Value) (n k : Nat) (hz : z.size = n) (hn : 0 < n) : ((Array.range (k * n)).map (z[· % z.size]!)).toList = (List.replicate k z.toList).flatten := by
  apply List.ext_getElem?
  intro i
  simp only [Array.toList_map, List.getElem?_map, Array.toList_range]
  by_cases hi : i < k * n
  · rw [List.getElem?_range hi]
    simp only [Option.map_some]
    have h1 : ∀ (k i : Nat), i < k * n → (List.replicate k z.toList).flatten[i]? = z.toList[i % n]? := by
      intro k
      induction k with
      | zero => intro i h; omega
      | succ k ih =>
        intro i h
        rw [List.replicate_succ, List.flatten_cons]
        by_cases h2 : i < n
        · rw [List.getElem?_append_left (by simpa [hz] using h2), Nat.mod_eq_of_lt h2]
        · rw [List.getElem?_append_right (by simp [hz]; omega)]
          simp only [Array.length_toList, hz]
          have h' : i - n < k * n := by have := Nat.add_one_mul k n; omega
          rw [ih (i - n) h', ← Nat.mod_eq_sub_mod (Nat.le_of_not_lt h2)]
    rw [h1 k i hi, hz]
    have hlt : i % n < z.size := by rw [hz]; exact Nat.mod_lt _ hn
    rw [getElem!_pos z (i % n) hlt]
    simp [hlt]
  · rw [List.getElem?_eq_none (by simpa using hi), List.getElem?_eq_none (by
      simp [hz]; omega)]; rfl

theorem mem_replicate_one {z : List Value} (hz : ∀ y ∈ z, y.oneCell' = true) (k : Nat) : ∀ y ∈ (List.replicate k z).flatten, y.oneCell' = true := by
  intro y hy
  obtain ⟨l, hl, hy⟩ := List.mem_flatten.1 hy
  rw [(List.mem_replicate.1 hl).2] at hy
  exact hz y hy

theorem sl_new (hs : StoreRel β F w S) {n sz len c : Nat} {cap : Option Nat} (w' : World) (hle : len ≤ c) (hc : ∀ c', cap = some c' → c = c') (hn : cap = none → c * sz ≤ n) :
    Rep (β ++ [⟨w.heap.size, 0, n, 0⟩]) F w' (.sl S.length 0 0 sz len cap) (.slice (some ⟨w.heap.size, 0, none⟩) len c) :=
  ⟨⟨w.heap.size, 0, n, 0⟩, _, c, by rw [hs.len]; simp, Nat.le_refl _, rfl, hle, hc, fun _ => ⟨rfl, fun h => by simpa using hn h⟩⟩

theorem bslice_ok (hs : StoreRel β F w S) {t el sz n : Nat} {z : AV} {parts : Array (Nat × Operand)} {qs : List (Nat × Opd)} {r : List AV} (hρ : OpdRel G β F w e ρ)
    (ht : P.underlying t = some (.slice el)) (hn : tSize P el = some sz) (hz : tZero P el = some z) (hzl : z.parts.length = sz) (hsz : 0 < sz) (hb : n * sz ≤ 2 ^ 24) (h0 : n ≠ 0)
    (hp : cParts parts.toList = some qs) (hr : fillP ((List.replicate n z.parts).flatten) (qs.map fun p => (p.1 * sz, sz, p.2.ev G e)) = some r) :
    VOK P β F w (Instr.buildSlice t n (parts.map fun (i, x) => (i, ρ x))) (.sl S.length 0 0 sz n (some n)) (S ++ [.cells r el 0 false]) := by
  obtain ⟨v, hv, hc, ho⟩ := zero_parts (β := β) (F := F) (w := w) hz
  obtain ⟨hl, hg⟩ := cParts_get _ _ hp
  have hvs : v.cells.size = sz := by rw [← hzl, ← RepL.length hc]; simp
  have hzl' := zeros_list v.cells sz n hvs hsz
  obtain ⟨b, hbb, hrb, hob⟩ := fill_run (β := β) (F := F) (w := w) (fun i => some (i * sz, sz)) (parts.map fun (i, x) => (i, ρ x)).toList (qs.map fun p => (p.1 * sz, sz, p.2.ev G e))
    ((Array.range (n * sz)).map (v.cells[· % v.cells.size]!)) ((List.replicate n z.parts).flatten) r (by simp [hl]) (fun j p q hp hq => by
      simp only [Array.toList_map, List.getElem?_map, Option.map_eq_some_iff] at hp hq
      obtain ⟨p', hp', rfl⟩ := hp; obtain ⟨q', hq', rfl⟩ := hq
      obtain ⟨h1, h4⟩ := hg j p' q' (by simpa using hp') hq'
      exact ⟨by simp [h1], hρ _ _ h4⟩) (by rw [hzl']; exact RepL.replicate hc n) (by rw [hzl']; exact mem_replicate_one ho n) hr
  have hbs : b.size = r.length := by rw [← RepL.length hrb]; simp
  obtain ⟨h1, h2, h3⟩ := newRow_ok (P := P) hs (ty := el) (cs := r) (a := b) false (by rw [List.take_of_length_le (by simp [hbs])]; exact hrb) hob (by omega) (fun _ => hbs)
  refine ⟨.slice (some ⟨w.heap.size, 0, none⟩) n n, _, _, F, ?_, sl_new hs _ (Nat.le_refl _) (by simp) (by simp), h2, h3⟩
  have hne : ¬ (n * sz = 0) := by have := Nat.mul_pos (Nat.pos_of_ne_zero h0) hsz; omega
  have hnb : ¬ (n * sz > 2 ^ 24) := by omega
  simp only [Instr.buildSlice, Sem.run_bind, run_underlying ht, Result.andThen_ok, run_sizeOf hn, if_neg hnb, if_neg hne, Sem.run_pure, hv, hbb]
  simp [h1]

theorem bslice0_ok (hs : StoreRel β F w S) {t el sz : Nat} {parts : Array (Nat × Operand)} {qs : List (Nat × Opd)}
    (ht : P.underlying t = some (.slice el)) (hn : tSize P el = some sz) (hp : cParts parts.toList = some qs) (hq : qs = []) :
    ∃ x w' β', (Instr.buildSlice t 0 (parts.map fun (i, x) => (i, ρ x))).run P w = .ok x w' ∧ Rep β' F w' .esl x ∧ StoreRel β' F w' S ∧ Ext β F w β' F w' := by
  subst hq
  obtain ⟨hl, _⟩ := cParts_get _ _ hp
  have hp0 : parts = #[] := by
    simpa using hl.symm
  subst hp0
  refine ⟨.slice (some ⟨w.heap.size, 0, none⟩) 0 0, w.alloc (.cells #[] el), β, ?_, ⟨_, rfl⟩, ?_, ?_⟩
  · have hr : Array.range 0 = #[] := by simp
    simp [Instr.buildSlice, run_underlying ht, run_sizeOf hn, hr, Instr.fill, newRow]
  · have hk : Keeps β F w β F (w.alloc (.cells #[] el)) := ⟨fun _ h => h, fun k _ hk => by rw [heap_alloc, if_neg (by omega)], fun _ i h => ⟨i, h, Nat.le_refl _, fun _ => rfl⟩⟩
    exact ⟨hs.len, fun b x i hx hi => ⟨(hs.box b x i hx hi).1, (hs.box b x i hx hi).2.keep hk (by have := hs.lt b i hi; rw [heap_alloc, if_neg (by omega)])⟩,
      fun b i hi => by have := hs.lt b i hi; simp; omega, fun k hk => by have := hs.fl k hk; simp; omega, hs.nF, hs.inj⟩
  · exact ⟨by simp, rfl, rfl, rfl, fun k hk _ => by rw [heap_alloc, if_neg (by omega)], fun i h => .inl ⟨i, h, rfl⟩, fun _ h => h, fun _ h => .inl h, fun _ i h => ⟨i, h, Nat.le_refl _, fun _ => rfl⟩⟩

end Go.AM

set_option linter.unusedSimpArgs false
set_option linter.unusedVariables false
namespace Go.AM

variable {P : Program} {β : Beta} {F : Fz} {w : World} {S : Store} {G : Globs} {e : Env} {ρ : Operand → Value}

theorem sureAddr_run {a : Addr} : (Instr.sureAddr (.pointer (some a))).run P w = .ok a w := rfl

theorem faddr_run {s i : Nat} {fs : Array Field} {f : Field} {n : Nat} {v r : AV} {x : Value} (ht : P.underlying s = some (.struct fs)) (hf : fs[i]? = some f)
    (hn : tSize P f.type = some (n + 1)) (hx : Rep β F w v x) (h : faddrV f.offset v = some r) : ∃ y, (Instr.fieldAt s x i).run P w = .ok y w ∧ Rep β F w r y := by
  have key : ∀ a : Addr, (Instr.fieldAt s (.pointer (some a)) i).run P w = .ok (.pointer (some (a.add f.offset))) w := by
    intro a
    simp [Instr.fieldAt, run_underlying ht, hf, sureAddr_run, fieldPlace, run_sizeOf hn]
  cases v <;> simp only [faddrV] at h <;> (try (cases h; done))
  case ptr b g o =>
    injection h with h; subst h
    obtain ⟨i', a, h1, h2, rfl, h3⟩ := hx
    refine ⟨_, key a, i', _, h1, h2, rfl, fun hg => ?_⟩
    rw [h3 hg, addr_add]; simp; omega
  case fptr cells =>
    split at h
    · rename_i hle
      injection h with h; subst h
      obtain ⟨blk, off, rfl, hF, hr⟩ := hx
      exact ⟨_, key _, blk, off + f.offset, by rw [addr_add], hF, RepAt.drop f.offset hr⟩
    · cases h

theorem iaddr_run {t el sz i : Nat} {v iv r : AV} {x y : Value} (ht : P.underlying t = some (.slice el)) (hn : tSize P el = some sz) (hi : natOf iv = some i)
    (hx : Rep β F w v x) (hy : Rep β F w iv y) (h : iaddrV sz i v = some r) : ∃ z, (Instr.indexAt t x y).run P w = .ok z w ∧ Rep β F w r z := by
  obtain ⟨k, m, rfl, rfl, h0, rfl⟩ := natOf_rep hi hy
  have key : ∀ (a : Addr) (len c : Nat), m < (len : Int) → (Instr.indexAt t (.slice (some a) len c) (.int k m)).run P w = .ok (.pointer (some (a.add (m.toNat * sz)))) w := by
    intro a len c hlt
    simp [Instr.indexAt, asIntOf, run_underlying ht, h0, hlt, run_sizeOf hn]
  cases v <;> simp only [iaddrV] at h <;> (try (cases h; done))
  case sl b g off s' len cap =>
    split at h
    · rename_i hlt
      injection h with h; subst h
      obtain ⟨i', a, c, h1, h2, rfl, h3, h4, h5⟩ := hx
      refine ⟨_, key a len c (by omega), i', _, h1, h2, rfl, fun hg => ?_⟩
      rw [(h5 hg).1, addr_add]; simp; omega
    · cases h
  case fsl cells len =>
    split at h
    · rename_i hlt
      injection h with h; subst h
      obtain ⟨a, c, rfl, h3, hr⟩ := hx
      rcases hr with hr | ⟨blk, off, rfl, hF, hr⟩
      · subst hr; simp at hlt
      · exact ⟨_, key _ len c (by omega), blk, off + m.toNat * sz, by rw [addr_add], hF, RepAt.drop _ hr⟩
    · cases h

theorem iaddrA_run {t el sz n i : Nat} {v iv r : AV} {x y : Value} (ht : P.underlying t = some (.array n el)) (hn : tSize P el = some sz) (hi : natOf iv = some i)
    (hx : Rep β F w v x) (hy : Rep β F w iv y) (h : iaddrAV n sz i v = some r) : ∃ z, (Instr.indexAt t x y).run P w = .ok z w ∧ Rep β F w r z := by
  obtain ⟨k, m, rfl, rfl, h0, rfl⟩ := natOf_rep hi hy
  have key : ∀ (a : Addr), m < (n : Int) → (Instr.indexAt t (.pointer (some a)) (.int k m)).run P w = .ok (.pointer (some (a.add (m.toNat * sz)))) w := by
    intro a hlt
    simp [Instr.indexAt, asIntOf, run_underlying ht, h0, hlt, run_sizeOf hn, sureAddr_run]
  cases v <;> simp only [iaddrAV] at h <;> (try (cases h; done))
  case ptr b g off =>
    split at h
    · rename_i hlt
      injection h with h; subst h
      obtain ⟨i', a, h1, h2, rfl, h3⟩ := hx
      refine ⟨_, key a (by omega), i', _, h1, h2, rfl, fun hg => ?_⟩
      rw [h3 hg, addr_add]; simp; omega
    · cases h
  case fptr cells =>
    split at h
    · rename_i hlt
      injection h with h; subst h
      obtain ⟨blk, off, rfl, hF, hr⟩ := hx
      exact ⟨_, key _ (by omega), blk, off + m.toNat * sz, by rw [addr_add], hF, RepAt.drop _ hr⟩
    · cases h

/-- A pointer's box. -/
theorem ptr_row (hs : StoreRel β F w S) {b g off : Nat} {x : Value} {cs : List AV} (hx : Rep β F w (.ptr b g off) x) (hr : boxRd S b g = some cs) :
    ∃ ty sk i, S[b]? = some (.cells cs ty g sk) ∧ β[b]? = some i ∧ i.gen = g ∧ BoxRel β F w i (.cells cs ty g sk) ∧ x = .pointer (some ⟨i.blk, i.base + off, none⟩) := by
  obtain ⟨ty, sk, i, h1, h2, h3, h4⟩ := hs.row hr
  obtain ⟨i', a, h5, h6, rfl, h7⟩ := hx
  rw [h2] at h5; injection h5 with h5; subst h5
  exact ⟨ty, sk, i, h1, h2, h3, h4, by rw [h7 h3.symm]⟩

theorem load_run (hs : StoreRel β F w S) {t n : Nat} {g : Bool} {v r : AV} {x : Value} (hn : tSize P t = some n) (hg : tAgg P t = some g) (hx : Rep β F w v x)
    (h : loadV S n g v = some r) : ∃ y, (Instr.loadAt t x).run P w = .ok y w ∧ Rep β F w r y := by
  cases v <;> simp only [loadV] at h <;> (try (cases h; done))
  case ptr b g' off =>
    split at h
    · rename_i cs hcs
      obtain ⟨ty, sk, i, h1, h2, h3, h4, rfl⟩ := ptr_row hs hx hcs
      obtain ⟨y, hy, hv⟩ := loadVar_run hn hg h h4.2.2.2.2
      exact ⟨y, by simp [Instr.loadAt, sureAddr_run, hy], hv⟩
    · cases h
  case fptr cells =>
    obtain ⟨blk, off, rfl, hF, hr⟩ := hx
    obtain ⟨y, hy, hv⟩ := loadVar_run hn hg h hr
    exact ⟨y, by simp [Instr.loadAt, sureAddr_run]; simpa using hy, hv⟩

theorem set_same {α : Type} {l : List α} {i : Nat} {a : α} (h : l[i]? = some a) : l.set i a = l := by
  apply List.ext_getElem?
  intro j
  rw [List.getElem?_set]
  split
  · rename_i hij; subst hij; split
    · exact h.symm
    · rename_i hn; rw [List.getElem?_eq_none (by omega)] at h; cases h
  · rfl

theorem wr_len {vs : List AV} {cs : List AV} {off : Nat} {S' : Store} {b g : Nat} (h : boxWr S b g off vs = some S') :
    ∃ cs ty sk, S[b]? = some (.cells cs ty g sk) ∧ off + vs.length ≤ cs.length ∧ S' = S.set b (.cells (wrl cs off vs) ty g sk) := by
  unfold boxWr at h
  split at h
  · rename_i cs ty gen sk hb
    split at h
    · rename_i hc; obtain ⟨rfl, hle⟩ := hc
      injection h with h
      exact ⟨cs, ty, sk, hb, hle, h.symm⟩
    · cases h
  · cases h

/-- A box's row is written. -/
theorem write_ok (hs : StoreRel β F w S) {b g off : Nat} {vs : List AV} {ys : List Value} {S' : Store} {i : BI} (hw : boxWr S b g off vs = some S') (hi : β[b]? = some i) (hgen : i.gen = g)
    (hr : RepL β F w vs ys) (ho : ∀ y ∈ ys, y.oneCell' = true) :
    ∃ w', (storeCells ⟨i.blk, i.base + off, none⟩ ys).run P w = .ok () w' ∧ StoreRel β F w' S' ∧ Ext β F w β F w' := by
  obtain ⟨cs, ty, sk, hb, hle, rfl⟩ := wr_len (cs := []) hw
  obtain ⟨h0, h1, h2, h3, h4, h5⟩ := hs.box b _ i hb hi
  have hlen := RepL.length hr
  obtain ⟨w', hrun, hwr⟩ := storeCells_run (P := P) i.blk (i.base + off) ys 0 w ho (fun k hk => by
    have hk' : off + k < cs.length := by omega
    obtain ⟨v, hv, _⟩ := RepAt.get h5 (off + k) cs[off + k] (List.getElem?_eq_getElem hk')
    refine ⟨⟨v, ?_⟩, h2 _ (by omega)⟩
    rw [show i.base + off + (0 + k) = i.base + (off + k) by omega]; exact hv)
  simp only [Nat.add_zero] at hwr
  have hupd := StoreRel.upd hs (x' := .cells (wrl cs off vs) ty g sk) (i' := i) (w' := w') hb hi (by rw [hwr.size]; exact Nat.le_refl _) hwr.tape hwr.os hwr.out (fun k _ hk => hwr.other k hk) rfl
    (Nat.le_refl _) (fun _ => rfl) hgen.symm (.inl rfl)
  rw [set_same hi] at hupd
  have hk : Keeps β F w β F w' := ⟨fun _ h => h, fun k hk _ => hwr.other k (fun he => hs.nF b _ i hb rfl hi (he ▸ hk)), fun _ i h => ⟨i, h, Nat.le_refl _, fun _ => rfl⟩⟩
  obtain ⟨hS, hE⟩ := hupd ⟨by rw [hwr.shape]; exact h1, fun o hlt => by rw [hwr.frozen]; exact h2 o hlt, by rw [wrl_length]; exact h3, fun h => by rw [wrl_length]; exact h4 h, by
    rw [RepAt.iff]
    intro j a ha
    rw [wrl_get] at ha
    rw [hwr.cell]
    split at ha
    · rename_i hc
      obtain ⟨y, hy, hry⟩ := RepL.get hr _ a ha
      rw [if_pos (by omega), show i.base + j - (i.base + off) = j - off by omega]
      exact ⟨y, hy, ho y (List.mem_of_getElem? hy), Rep.keep hk a y hry⟩
    · rename_i hc
      have hj := (List.getElem?_eq_some_iff.1 ha).1
      rw [if_neg (by omega)]
      obtain ⟨y, hy, hone, hry⟩ := RepAt.get h5 j a ha
      exact ⟨y, hy, hone, Rep.keep hk a y hry⟩⟩
  exact ⟨w', hrun, hS, hE⟩

theorem store_run (hs : StoreRel β F w S) {t n b g off : Nat} {v : AV} {x y : Value} {S' : Store} (hn : tSize P t = some n) (hx : Rep β F w (.ptr b g off) x) (hy : Rep β F w v y)
    (hsol : v.solid = true) (hlen : v.parts.length = n) (hw : boxWr S b g off v.parts = some S') :
    ∃ w', (Instr.storeAt t x y).run P w = .ok () w' ∧ StoreRel β F w' S' ∧ Ext β F w β F w' := by
  obtain ⟨cs, ty, sk, hb, hle, _⟩ := wr_len (cs := []) hw
  have hrd : boxRd S b g = some cs := by simp [boxRd, hb]
  obtain ⟨_, _, i, _, hi, hgen, _, rfl⟩ := ptr_row hs hx hrd
  obtain ⟨hc, ho⟩ := cells_rep hsol hy
  obtain ⟨w', h1, h2, h3⟩ := write_ok (P := P) hs hw hi hgen hc ho
  refine ⟨w', ?_, h2, h3⟩
  have hsz : y.cells.size = n := by rw [← hlen, ← RepL.length hc]; simp
  simp [Instr.storeAt, sureAddr_run, storeVar, run_sizeOf hn, hsz, h1]

end Go.AM

set_option linter.unusedSimpArgs false
set_option linter.unusedVariables false
namespace Go.AM

variable {P : Program} {β : Beta} {F : Fz} {w : World} {S : Store} {G : Globs} {e : Env} {ρ : Operand → Value}

def OptRel (β : Beta) (F : Fz) (w : World) : Option AV → Option Value → Prop
  | none, none => True
  | some a, some b => Rep β F w a b
  | _, _ => False

theorem opt_rep (h : OpdRel G β F w e ρ) {x : Option Operand} {c : Option Opd} (hc : cOpt x = some c) : OptRel β F w (c.map (·.ev G e)) (x.map ρ) := by
  cases x with
  | none => simp [cOpt] at hc; subst hc; trivial
  | some x =>
    simp only [cOpt, Option.map_eq_some_iff] at hc
    obtain ⟨a, ha, rfl⟩ := hc
    exact h x a ha

theorem bound_run {v : AV} {x : Value} {n y : Nat} {c : BoundsCode} (hn : natOf v = some n) (hr : Rep β F w v x) (hle : n ≤ y) : (Instr.sliceBound x y c).run P w = .ok n w := by
  obtain ⟨k, m, rfl, rfl, h0, rfl⟩ := natOf_rep hn hr
  have : m ≤ (y : Int) := by omega
  simp [Instr.sliceBound, asIntOf, h0, this]

theorem bounds_run {lo hi mx : Option AV} {lo' hi' mx' : Option Value} {isS : Bool} {len cap l h m : Nat} (hl : OptRel β F w lo lo') (hh : OptRel β F w hi hi') (hm : OptRel β F w mx mx')
    (el : bnd lo 0 = some l) (eh : bnd hi len = some h) (em : bnd mx cap = some m) (h1 : l ≤ h) (h2 : h ≤ m) (h3 : m ≤ cap) (hx : mx.isSome → hi.isSome) :
    (Instr.sliceBounds isS len cap lo' hi' mx').run P w = .ok (l, h, m) w := by
  cases lo <;> cases lo' <;> cases hi <;> cases hi' <;> cases mx <;> cases mx' <;> simp [OptRel] at hl hh hm hx <;> simp only [bnd, Option.some.injEq] at el eh em <;>
    (try subst el) <;> (try subst eh) <;> (try subst em) <;> unfold Instr.sliceBounds
  all_goals simp only [Sem.run_bind, Sem.run_pure, Result.andThen_ok]
  all_goals first
    | (rw [bound_run em hm (by omega)]; simp only [Result.andThen_ok]; rw [bound_run eh hh (by omega)]; simp only [Result.andThen_ok]; rw [bound_run el hl (by omega)]; rfl)
    | (rw [bound_run em hm (by omega)]; simp only [Result.andThen_ok]; rw [bound_run eh hh (by omega)]; rfl)
    | (rw [bound_run eh hh (by omega)]; simp only [Result.andThen_ok]; rw [bound_run el hl (by omega)]; rfl)
    | (rw [bound_run eh hh (by omega)]; rfl)
    | (rw [bound_run el hl (by omega)]; rfl)
    | rfl

theorem slS_run {t el sz : Nat} {v r : AV} {x : Value} {lo hi mx : Option AV} {lo' hi' mx' : Option Value} (ht : P.underlying t = some (.slice el)) (hn : tSize P el = some sz) (hsz : 0 < sz)
    (hx : Rep β F w v x) (hl : OptRel β F w lo lo') (hh : OptRel β F w hi hi') (hm : OptRel β F w mx mx') (hmh : mx.isSome → hi.isSome) (h : slV sz v lo hi mx = some r) :
    ∃ y, (Instr.sliceAt t x lo' hi' mx').run P w = .ok y w ∧ Rep β F w r y := by
  have key : ∀ (a : Option Addr) (len cap l h' m : Nat), bnd lo 0 = some l → bnd hi len = some h' → bnd mx cap = some m → l ≤ h' → h' ≤ m → m ≤ cap →
      (Instr.sliceAt t (.slice a len cap) lo' hi' mx').run P w = .ok (.slice (if m = l then a else a.map (·.add (l * sz))) (h' - l) (m - l)) w := by
    intro a len cap l h' m e1 e2 e3 h1 h2 h3
    simp only [Instr.sliceAt, Instr.slice, Sem.run_bind, run_underlying ht, Result.andThen_ok, bounds_run (isS := true) hl hh hm e1 e2 e3 h1 h2 h3 hmh, run_sizeOf hn, Sem.run_pure]
  cases v <;> simp only [slV] at h <;> (try (cases h; done))
  case nsl =>
    split at h
    · rename_i e1 e2 e3
      injection h with h; subst h
      cases hx
      exact ⟨_, key none 0 0 0 0 0 e1 e2 e3 (by omega) (by omega) (by omega), rfl⟩
    · cases h
  case esl =>
    split at h
    · rename_i e1 e2 e3
      injection h with h; subst h
      obtain ⟨a, rfl⟩ := hx
      exact ⟨_, key a 0 0 0 0 0 e1 e2 e3 (by omega) (by omega) (by omega), a, rfl⟩
    · cases h
  case fsl cells ln =>
    split at h
    · rename_i l h' m e1 e2 e3
      split at h
      · rename_i hc
        obtain ⟨h1, h2, h3, h4⟩ := hc
        injection h with h; subst h
        obtain ⟨a, c, rfl, hlc, hr⟩ := hx
        have hlsz : l * sz ≤ h' * sz := Nat.mul_le_mul_right _ h1
        have hcells : l < h' → cells ≠ [] := by
          intro hlt he; subst he
          have : 0 < h' * sz := Nat.mul_pos (by omega) hsz
          simp at h4; omega
        have fin : ∀ M, (M = l → l = h') → h' ≤ M → Rep β F w (.fsl ((cells.take (h' * sz)).drop (l * sz)) (h' - l)) (.slice (if M = l then a else a.map (·.add (l * sz))) (h' - l) (M - l)) := by
          intro M hM hhM
          by_cases hlh : l = h'
          · subst hlh
            have : (cells.take (l * sz)).drop (l * sz) = [] := by rw [List.drop_eq_nil_iff]; simp; omega
            rw [this]; exact ⟨_, _, rfl, by omega, .inl rfl⟩
          · rcases hr with hr | ⟨blk, off, rfl, hF, hr⟩
            · exact absurd hr (hcells (by omega))
            · have hMl : ¬ M = l := fun he => hlh (hM he)
              simp only [if_neg hMl]
              exact ⟨_, _, rfl, by omega, .inr ⟨blk, off + l * sz, by simp [addr_add], hF, RepAt.drop _ (RepAt.take _ hr)⟩⟩
        cases mx with
        | none =>
          simp only [bnd, Option.some.injEq] at e3; subst e3
          simp only [Option.isSome_none, Bool.false_eq_true, false_and, if_false]
          exact ⟨_, key a ln c l h' c e1 e2 rfl h1 (by omega) (Nat.le_refl _), fin c (by omega) (by omega)⟩
        | some mv =>
          simp only [bnd] at e3
          refine ⟨_, key a ln c l h' m e1 e2 e3 h1 h2 (by omega), ?_⟩
          simp only [Option.isSome_some, true_and]
          by_cases hml : m = l
          · have hhl : h' = l := by omega
            rw [if_pos hml]; exact ⟨a, by simp [hml, hhl]⟩
          · rw [if_neg hml]; exact fin m (fun he => absurd he hml) h2
      · cases h
    · cases h
  case sl b g off sz' ln cp =>
    split at h
    · rename_i hsz'; subst hsz'
      obtain ⟨i, a, c, hi1, hg, rfl, hlc, hcap, hcur⟩ := hx
      split at h
      · rename_i l h' e1 e2
        have fin : ∀ M, l ≤ h' → h' ≤ M → M ≤ c → M ≠ l → ∀ cp', (∀ c', cp' = some c' → M - l = c') → (cp' = none → M = c ∧ cp = none) →
            Rep β F w (.sl b g (off + l * sz') sz' (h' - l) cp') (.slice (if M = l then some a else (some a).map (·.add (l * sz'))) (h' - l) (M - l)) := by
          intro M h1 h2 h3 hMl cp' hcp' hn'
          rw [if_neg hMl]
          refine ⟨i, a.add (l * sz'), _, hi1, hg, rfl, by omega, hcp', fun hgi => ⟨?_, fun hnone => ?_⟩⟩
          · rw [(hcur hgi).1, addr_add]; simp; omega
          · obtain ⟨hMc, hcpn⟩ := hn' hnone
            have := (hcur hgi).2 hcpn
            subst hMc
            have e4 : (M - l) * sz' + l * sz' = M * sz' := by rw [← Nat.add_mul]; congr 1; omega
            omega
        split at h
        · rename_i mv cp1
          split at h
          · rename_i m em
            split at h
            · rename_i hc
              injection h with h; subst h
              have hmc : m ≤ c := by
                cases cp with
                | none => simp at hc; omega
                | some c' => have := hcap c' rfl; simp at hc; omega
              refine ⟨_, key (some a) ln c l h' m e1 e2 em hc.1 hc.2.1 hmc, ?_⟩
              by_cases hml : m = l
              · have hhl : h' = l := by omega
                rw [if_pos hml]; exact ⟨some a, by simp [hml, hhl]⟩
              · rw [if_neg hml]; exact fin m hc.1 hc.2.1 hmc hml _ (by simp) (by simp)
            · cases h
          · cases h
        · rename_i c' 
          split at h
          · rename_i hc
            injection h with h; subst h
            have hcc := hcap _ rfl
            subst hcc
            refine ⟨_, key (some a) ln c l h' c e1 e2 rfl hc.1 hc.2 (Nat.le_refl _), ?_⟩
            by_cases hml : c = l
            · have hhl : h' = l := by omega
              rw [if_pos hml]; exact ⟨some a, by simp [hml, hhl]⟩
            · rw [if_neg hml]; exact fin c hc.1 hc.2 (Nat.le_refl _) hml _ (by simp) (by simp)
          · cases h
        · split at h
          · rename_i hc
            injection h with h; subst h
            exact ⟨_, key (some a) ln c l h' c e1 e2 rfl hc.1 (by omega) (Nat.le_refl _), fin c hc.1 (by omega) (Nat.le_refl _) (by omega) _ (by simp) (by simp)⟩
          · cases h
      · cases h
    · cases h

theorem slStr_run {t : Nat} {v r : AV} {x : Value} {lo hi : Option AV} {lo' hi' : Option Value} (ht : P.underlying t = some .string)
    (hx : Rep β F w v x) (hl : OptRel β F w lo lo') (hh : OptRel β F w hi hi') (h : slStrV v lo hi = some r) :
    ∃ y, (Instr.sliceAt t x lo' hi' none).run P w = .ok y w ∧ Rep β F w r y := by
  cases v <;> simp only [slStrV] at h <;> (try (cases h; done))
  case str s =>
    split at h
    · rename_i l h' e1 e2
      split at h
      · rename_i hc
        injection h with h; subst h
        obtain ⟨t', rfl, rfl⟩ := hx
        have hsz : t'.data.toList.length = t'.size := by simp
        refine ⟨.string (t'.extract l h'), ?_, _, rfl, ?_⟩
        · rw [hsz] at e2
          simp only [Instr.sliceAt, Instr.slice, Sem.run_bind, run_underlying ht, Result.andThen_ok, Option.isSome_none, Bool.false_eq_true, if_false, Sem.run_pure,
            bounds_run (P := P) (isS := false) (mx := none) (mx' := none) (len := t'.size) (cap := t'.size) hl hh trivial e1 e2 rfl hc.1 (by omega) (Nat.le_refl _) (by simp)]
        · simp only [ByteArray.data_extract, Array.toList_extract, List.extract_eq_take_drop, List.drop_take]
      · cases h
    · cases h

theorem slP_run {t el al sz : Nat} {v r : AV} {x : Value} {lo hi : Option AV} {lo' hi' : Option Value}
    (ht : P.underlying t = some (.array al el) ∨ ∃ a, P.underlying t = some (.pointer a) ∧ P.underlying a = some (.array al el)) (hn : tSize P el = some sz)
    (hx : Rep β F w v x) (hl : OptRel β F w lo lo') (hh : OptRel β F w hi hi') (h : slPV al sz v lo hi = some r) :
    ∃ y, (Instr.sliceAt t x lo' hi' none).run P w = .ok y w ∧ Rep β F w r y := by
  cases v <;> simp only [slPV] at h <;> (try (cases h; done))
  case ptr b g off =>
    split at h
    · rename_i l h' e1 e2
      split at h
      · rename_i hc
        injection h with h; subst h
        obtain ⟨i, a, h1, h2, rfl, h3⟩ := hx
        have hml : ¬ al = l := by omega
        have hb := bounds_run (P := P) (isS := false) (mx := none) (mx' := none) (len := al) (cap := al) hl hh trivial e1 e2 rfl hc.1 hc.2.1 (Nat.le_refl _) (by simp)
        refine ⟨.slice (some (a.add (l * sz))) (h' - l) (al - l), ?_, i, _, _, h1, h2, rfl, by omega, by simp, fun hg => ⟨?_, by simp⟩⟩
        · rcases ht with ht | ⟨ar, ht, ha⟩
          · simp only [Instr.sliceAt, Sem.run_bind, run_underlying ht, Result.andThen_ok, sureAddr_run, hb, run_sizeOf hn, if_neg hml, Sem.run_pure]
          · simp only [Instr.sliceAt, Instr.slice, Sem.run_bind, run_underlying ht, run_underlying ha, Result.andThen_ok, asAddr, hb, run_sizeOf hn, if_neg hml, Sem.run_pure]
        · rw [h3 hg, addr_add]; simp; omega
      · cases h
    · cases h

theorem mslice_ok (hs : StoreRel β F w S) {t el sz bytes l c : Nat} {z : AV} {lv cv : AV} {lx cx : Value} (ht : P.underlying t = some (.slice el)) (hn : tSize P el = some sz) (hb : tBytes P el = some bytes)
    (hz : tZero P el = some z) (hzl : z.parts.length = sz) (hsz : 0 < sz) (hl : natOf lv = some l) (hc : natOf cv = some c) (hlr : Rep β F w lv lx) (hcr : Rep β F w cv cx)
    (h1 : l ≤ c) (h2 : c * bytes ≤ big) (h3 : c ≤ big) :
    VOK P β F w (Instr.makeSlice t lx cx) (.sl S.length 0 0 sz l (some c)) (S ++ [.cells ((List.replicate c z.parts).flatten) el 0 false]) := by
  obtain ⟨k, m, rfl, rfl, h0, rfl⟩ := natOf_rep hl hlr
  obtain ⟨k', m', rfl, rfl, h0', rfl⟩ := natOf_rep hc hcr
  obtain ⟨v, hv, hcr', ho⟩ := zero_parts (β := β) (F := F) (w := w) hz
  have hvs : v.cells.size = sz := by rw [← hzl, ← RepL.length hcr']; simp
  have hzl' := zeros_list v.cells sz m'.toNat hvs hsz
  obtain ⟨i, hi, hib⟩ : ∃ i, P.info? el = some i ∧ i.bytes = bytes := by
    unfold tBytes at hb
    cases hi : P.info? el with
    | none => simp [hi] at hb
    | some i => exact ⟨i, rfl, by simpa [hi] using hb⟩
  unfold big at h2 h3
  have hw : ∀ q : Int, 0 ≤ q → q ≤ 1099511627776 → IntKind.i64.wrap q = q := by
    intro q h0 hq
    have h64 : (2 : Int) ^ 64 = 18446744073709551616 := by decide
    have h63 : (2 : Int) ^ (64 - 1) = 9223372036854775808 := by decide
    simp only [IntKind.wrap, IntKind.signed, IntKind.bits, h64, h63]
    rw [Int.emod_eq_of_lt h0 (by omega)]
    have : decide (q ≥ 9223372036854775808) = false := decide_eq_false (by omega)
    rw [this]; rfl
  have hm' : m' ≤ 1099511627776 := by omega
  have hmm : m ≤ m' := by omega
  have hbytes : ((bytes : Int) * m') ≤ 1099511627776 := by
    have : ((m'.toNat * bytes : Nat) : Int) ≤ 1099511627776 := by generalize m'.toNat * bytes = p at h2; omega
    rw [Int.natCast_mul, Int.toNat_of_nonneg h0', Int.mul_comm] at this; exact this
  have hsize : ((Array.range (m'.toNat * sz)).map (v.cells[· % v.cells.size]!)).size = ((List.replicate m'.toNat z.parts).flatten).length := by simp [hzl]
  obtain ⟨n1, n2, n3⟩ := newRow_ok (P := P) hs (ty := el) (cs := (List.replicate m'.toNat z.parts).flatten) (a := (Array.range (m'.toNat * sz)).map (v.cells[· % v.cells.size]!)) false
    (by rw [List.take_of_length_le (by rw [← hsize]; simp), hzl']; exact RepL.replicate hcr' _) (by rw [hzl']; exact mem_replicate_one ho _) (by rw [hsize]; exact Nat.le_refl _) (fun _ => hsize)
  refine ⟨.slice (some ⟨w.heap.size, 0, none⟩) m.toNat m'.toNat, _, _, F, ?_, sl_new hs _ h1 (by simp) (by simp), n2, n3⟩
  have c1 : (((decide (m' < 0) || decide ((bytes : Int) * m' > 2 ^ 48)) || decide (m < 0)) || decide (m > m')) = false := by
    simp only [Bool.or_eq_false_iff, decide_eq_false_iff_not]
    refine ⟨⟨⟨by omega, ?_⟩, by omega⟩, by omega⟩
    intro hgt
    have : (2 : Int) ^ 48 = 281474976710656 := by decide
    omega
  simp only [Instr.makeSlice, Sem.run_bind, run_underlying ht, Result.andThen_ok, asInt, asIntOf_int, Sem.run_pure, run_typeInfo hi, hib, hw m h0 (by omega), hw m' h0' hm']
  rw [c1]
  simp only [Bool.false_eq_true, if_false, Sem.run_bind, run_askRoom, Result.andThen_ok, run_sizeOf hn]
  split
  · rename_i h00
    have e1 : ∀ f g : Nat → Value, (Array.range (m'.toNat * sz)).map f = (Array.range (m'.toNat * sz)).map g := by rw [h00]; simp
    simp only [Sem.run_bind, Sem.run_pure, Result.andThen_ok]
    rw [e1 _ (fun x => v.cells[x % v.cells.size]!), n1]; rfl
  · simp only [Sem.run_bind, Sem.run_pure, Result.andThen_ok, hv, n1]


end Go.AM

set_option linter.unusedSimpArgs false
set_option linter.unusedVariables false
namespace Go.AM

variable {P : Program} {β : Beta} {F : Fz} {w : World} {S : Store} {G : Globs} {e : Env} {ρ : Operand → Value}

theorem slLen_rep {v : AV} {n : Nat} {x : Value} (h : slLen v = some n) (hx : Rep β F w v x) : ∃ a c, x = .slice a n c ∧ n ≤ c := by
  cases v <;> simp [slLen] at h
  case nsl => subst h; cases hx; exact ⟨_, _, rfl, Nat.le_refl _⟩
  case esl => subst h; obtain ⟨a, rfl⟩ := hx; exact ⟨_, _, rfl, Nat.le_refl _⟩
  case sl => subst h; obtain ⟨i, a, c, _, _, rfl, hc, _⟩ := hx; exact ⟨_, _, rfl, hc⟩
  case fsl => subst h; obtain ⟨a, c, rfl, hc, _⟩ := hx; exact ⟨_, _, rfl, hc⟩

/-- The cells of a slice are read. -/
theorem slRd_run (hs : StoreRel β F w S) {v : AV} {x : Value} {k : Nat} {new : List AV} (hx : Rep β F w v x) (h : slRd S k v = some new) :
    ∃ a l c ys, x = .slice a l c ∧ RepL β F w new ys ∧ (∀ y ∈ ys, y.oneCell' = true) ∧ new.length = k ∧
      (match a with | some a => (loadCells a k).run P w = .ok ys.toArray w | none => ys = []) := by
  cases v <;> simp only [slRd] at h <;> (try (cases h; done))
  case nsl =>
    split at h
    · rename_i h0; injection h with h; subst h; cases hx; exact ⟨none, _, _, [], rfl, rfl, by simp, h0.symm, rfl⟩
    · cases h
  case esl =>
    split at h
    · rename_i h0; injection h with h; subst h; obtain ⟨a, rfl⟩ := hx
      refine ⟨a, _, _, [], rfl, rfl, by simp, h0.symm, ?_⟩
      subst h0
      cases a <;> simp [loadCells, loadCellsFrom]
    · cases h
  case fsl cells len =>
    split at h
    · rename_i h0; injection h with h; subst h; obtain ⟨a, c, rfl, hc, hr⟩ := hx
      have hlen : (cells.take k).length = k := by simp; omega
      rcases hr with hr | ⟨blk, off, rfl, hF, hr⟩
      · subst hr
        simp at h0; subst h0
        refine ⟨a, _, _, [], rfl, by simp [RepL], by simp, by simp, ?_⟩
        cases a <;> simp [loadCells, loadCellsFrom]
      · obtain ⟨vs, h1, h2, h3⟩ := RepAt.list (RepAt.take k hr)
        exact ⟨_, _, _, vs, rfl, h1, h2, hlen, loadCells_run (by rw [RepL.length h1, hlen]) h3⟩
    · cases h
  case sl b g off sz len cap =>
    split at h
    · rename_i cs hcs
      split at h
      · rename_i h0; injection h with h; subst h
        obtain ⟨ty, sk, i, h1, h2, h3, h4⟩ := hs.row hcs
        obtain ⟨i', a, c, h5, h6, rfl, h7, h8, h9⟩ := hx
        rw [h2] at h5; injection h5 with h5; subst h5
        have ha := (h9 h3.symm).1; subst ha
        have hlen : ((cs.drop off).take k).length = k := by simp; omega
        obtain ⟨vs, g1, g2, g3⟩ := RepAt.list (RepAt.take k (RepAt.drop off h4.2.2.2.2))
        exact ⟨_, _, _, vs, rfl, g1, g2, hlen, loadCells_run (by rw [RepL.length g1, hlen]) g3⟩
      · cases h
    · cases h

theorem u8s_rep (s : ByteArray) : RepL β F w (u8s s.data.toList) (s.data.toList.map fun b => Value.int .u8 b.toNat) ∧ ∀ y ∈ (s.data.toList.map fun b => Value.int .u8 b.toNat), y.oneCell' = true := by
  constructor
  · generalize s.data.toList = l
    induction l with
    | nil => rfl
    | cons c l ih => exact ⟨_, _, rfl, rfl, ih⟩
  · intro y hy
    obtain ⟨c, _, rfl⟩ := List.mem_map.1 hy
    rfl

theorem src_run (hs : StoreRel β F w S) {sz n : Nat} {isStr : Bool} {v : AV} {x : Value} {new : List AV} (hx : Rep β F w v x) (h : srcOf S sz isStr v = some (n, new)) (h1 : isStr = true → sz = 1) :
    ∃ ys, (Builtin.lenOf x).run P w = .ok n w ∧ (Builtin.firstCells sz n x).run P w = .ok ys.toArray w ∧ RepL β F w new ys ∧ (∀ y ∈ ys, y.oneCell' = true) ∧ new.length = n * sz := by
  cases isStr with
  | true =>
    cases v <;> simp [srcOf] at h
    obtain ⟨rfl, rfl⟩ := h
    obtain ⟨t, rfl, rfl⟩ := hx
    obtain ⟨g1, g2⟩ := u8s_rep (β := β) (F := F) (w := w) t
    have : sz = 1 := h1 rfl
    subst this
    refine ⟨_, by simp [Builtin.lenOf], ?_, g1, g2, by simp [u8s]⟩
    simp only [Builtin.firstCells, Sem.run_pure]
    congr 1
    apply Array.ext'
    simp
  | false =>
    have h' : (match slLen v with | some n => (slRd S (n * sz) v).map (n, ·) | none => none) = some (n, new) := by
      cases v <;> exact h
    split at h'
    · rename_i m hm
      simp only [Option.map_eq_some_iff, Prod.mk.injEq] at h'
      obtain ⟨l, hl, rfl, rfl⟩ := h'
      obtain ⟨a, l', c, ys, rfl, g1, g2, g3, g4⟩ := slRd_run (P := P) hs hx hl
      obtain ⟨a', c', he, _⟩ := slLen_rep hm hx
      injection he with _ he _; subst he
      refine ⟨ys, by simp [Builtin.lenOf], ?_, g1, g2, g3⟩
      cases a with
      | none => simp only at g4; subst g4; simp [Builtin.firstCells]
      | some a => simpa [Builtin.firstCells] using g4
    · cases h'

theorem zeroCells_one {z : Array Value} (hz : ∀ y ∈ z.toList, y.oneCell' = true) (n : Nat) : (∀ y ∈ (Builtin.zeroCells z n).toList, y.oneCell' = true) ∧ (Builtin.zeroCells z n).size = n * z.size := by
  constructor
  · intro y hy
    simp only [Builtin.zeroCells, Array.toList_map, List.mem_map] at hy
    obtain ⟨i, hi, rfl⟩ := hy
    have hi' : i < n * z.size := by simpa using hi
    have hpos : 0 < z.size := by
      rcases Nat.eq_zero_or_pos z.size with h | h
      · rw [h] at hi'; omega
      · exact h
    have hlt : i % z.size < z.size := Nat.mod_lt _ hpos
    rw [getElem!_pos z (i % z.size) hlt]
    exact hz _ (by simp)
  · simp [Builtin.zeroCells]

theorem next_bound (need old : Nat) (h : old < need) : Builtin.nextslicecap need old ≤ 2 * need + 4096 := by
  have hg : ∀ r c, c ≤ 2 * need + 4096 → Builtin.growBy need r c ≤ 2 * need + 4096 := by
    intro r
    induction r with
    | zero => intro c hc; simp [Builtin.growBy]; omega
    | succ r ih =>
      intro c hc
      simp only [Builtin.growBy]
      split
      · omega
      · exact ih _ (by omega)
  unfold Builtin.nextslicecap
  split
  · omega
  · split
    · omega
    · exact hg 4 old (by omega)

/-- append that makes a new row. -/
theorem realloc_run {T st xt el sz bytes : Nat} {ats : Array TypeId} (q0 : ats[0]? = some st) (q1 : ats[1]? = some xt) {z : AV} {base : Option Addr} {len cap n : Nat} {x : Value} {olds news : List Value}
    (hst : P.underlying st = some (.slice el)) (hxt : ∃ d, P.underlying xt = some d ∧ ∀ k, d ≠ .int k) (hn : tSize P el = some sz) (hb : tBytes P el = some bytes) (hz : tZero P el = some z) (hzl : z.parts.length = sz)
    (hold : (Builtin.firstCells sz len (.slice base len cap)).run P w.drew = .ok olds.toArray w.drew)
    (hlen : (Builtin.lenOf x).run P w = .ok n w) (hnew : (Builtin.firstCells sz n x).run P w.drew = .ok news.toArray w.drew)
    (h1 : cap < len + n) (hbb : bytes ≤ 1048576) (h2 : (len + n) * bytes ≤ big) (h3 : len + n ≤ big) (ho : olds.length = len * sz) (hw : news.length = n * sz) :
    ∃ newCap rest, len + n ≤ newCap ∧ (∀ y ∈ rest, y.oneCell' = true) ∧ (olds ++ news ++ rest).length = newCap * sz ∧
      (Builtin.append_ ats T #[.slice base len cap, x]).run P w =
        .ok (.slice (some ⟨w.heap.size, 0, none⟩) (len + n) newCap) (World.alloc w.drew (.cells (olds ++ news ++ rest).toArray el)) := by
  obtain ⟨v, hv, hcr, hone⟩ := zero_parts (P := P) (β := []) (F := fun _ => False) (w := w.drew) hz
  have hvs : v.cells.size = sz := by rw [← hzl, ← RepL.length hcr]; simp
  obtain ⟨i, hi, hib⟩ : ∃ i, P.info? el = some i ∧ i.bytes = bytes := by
    unfold tBytes at hb
    cases hi : P.info? el with
    | none => simp [hi] at hb
    | some i => exact ⟨i, rfl, by simpa [hi] using hb⟩
  obtain ⟨d, hd, hdi⟩ := hxt
  unfold big at h2 h3
  obtain ⟨newCap, hcap, hq⟩ : ∃ newCap, len + n ≤ newCap ∧ (choose (.appendCap (len + n) cap el)).run P w = .ok newCap w.drew := by
    refine ⟨(Question.appendCap (len + n) cap el).cut (w.tape w.drawn (.appendCap (len + n) cap el)), ?_, ?_⟩
    · show len + n ≤ (len + n) + _; omega
    · rw [run_choose]; rfl
  obtain ⟨z1, z2⟩ := zeroCells_one hone (newCap - (len + n))
  refine ⟨newCap, (Builtin.zeroCells v.cells (newCap - (len + n))).toList, hcap, z1, ?_, ?_⟩
  · simp only [List.length_append, ho, hw, Array.length_toList, z2, hvs]
    rw [← Nat.add_mul, ← Nat.add_mul]; congr 1; omega
  · have hz0 : (match d with | .int _ => true | _ => false) = false := by
      cases d <;> first | rfl | exact absurd rfl (hdi _)
    have hnot : ¬ (len + n ≤ cap) := by omega
    have hbig : ¬ (((len + n : Nat) : Int) > IntKind.i64.max ∧ (false = true ∨ bytes = 0)) := by
      intro hh; have := hh.1
      have h63 : IntKind.i64.max = 9223372036854775807 := by decide
      rw [h63] at this; omega
    have hnx : ¬ (Builtin.nextslicecap (len + n) cap * bytes > 2 ^ 48) := by
      have h48 : (2 : Nat) ^ 48 = 281474976710656 := by decide
      rw [h48]
      have hb1 := next_bound (len + n) cap h1
      have h4 : Builtin.nextslicecap (len + n) cap * bytes ≤ (2 * (len + n) + 4096) * bytes := Nat.mul_le_mul_right _ hb1
      rw [Nat.add_mul, Nat.mul_assoc] at h4
      omega
    simp only [Builtin.append_, q0, q1, List.getElem?_toArray, List.getElem?_cons_zero, List.getElem?_cons_succ, Sem.run_bind, run_underlying hst, Result.andThen_ok, run_sizeOf hn, run_underlying hd, Sem.run_pure]
    have hbi : ¬ (((len + n : Nat) : Int) > IntKind.i64.max ∧ (false = true ∨ i.bytes = 0)) := by rw [hib]; exact hbig
    have hni : ¬ (Builtin.nextslicecap (len + n) cap * i.bytes > 2 ^ 48) := by rw [hib]; exact hnx
    simp only [Bool.false_eq_true, if_false, Bool.not_false, if_true, Sem.run_bind, hlen, Result.andThen_ok, if_neg hnot, run_typeInfo hi]
    rw [if_neg (by simpa using hbi)]
    simp only [Sem.run_bind, run_typeInfo hi, Result.andThen_ok]
    rw [if_neg hni]
    simp only [Sem.run_bind, hq, Result.andThen_ok, run_typeInfo hi, run_askRoom, hold, hnew, hv, Sem.run_pure]
    have harr : olds.toArray ++ news.toArray ++ Builtin.zeroCells v.cells (newCap - (len + n)) = (olds ++ news ++ (Builtin.zeroCells v.cells (newCap - (len + n))).toList).toArray := by
      apply Array.ext'; simp
    simp only [newRow, Sem.run_bind, run_newObj, Result.andThen_ok, Sem.run_pure, harr]
    rfl

/-- append that stays in place. -/
theorem inplace_run {T st xt el sz : Nat} {ats : Array TypeId} (q0 : ats[0]? = some st) (q1 : ats[1]? = some xt) {base : Option Addr} {len cap n : Nat} {x : Value} {news : List Value}
    (hst : P.underlying st = some (.slice el)) (hxt : ∃ d, P.underlying xt = some d ∧ ∀ k, d ≠ .int k) (hn : tSize P el = some sz)
    (hlen : (Builtin.lenOf x).run P w = .ok n w) (hnew : (Builtin.firstCells sz n x).run P w = .ok news.toArray w) (h1 : len + n ≤ cap) :
    (Builtin.append_ ats T #[.slice base len cap, x]).run P w =
      match base with
      | some a => ((storeCells (a.add (len * sz)) news).run P w).andThen fun _ w' => .ok (.slice base (len + n) cap) w'
      | none => .ok (.slice base (len + n) cap) w := by
  obtain ⟨d, hd, hdi⟩ := hxt
  simp only [Builtin.append_, q0, q1, List.getElem?_toArray, List.getElem?_cons_zero, List.getElem?_cons_succ, Sem.run_bind, run_underlying hst, Result.andThen_ok, run_sizeOf hn, run_underlying hd, Sem.run_pure]
  simp only [Bool.false_eq_true, if_false, Bool.not_false, if_true, Sem.run_bind, hlen, Result.andThen_ok, if_pos h1, hnew]
  cases base with
  | none => rfl
  | some a => simp only [Sem.run_bind, Sem.run_pure]

end Go.AM

set_option linter.unusedSimpArgs false
set_option linter.unusedVariables false
namespace Go.AM

variable {P : Program} {β : Beta} {F : Fz} {w : World} {S : Store} {G : Globs} {e : Env} {ρ : Operand → Value}

theorem Ext.drew (β : Beta) (F : Fz) (w : World) : Ext β F w β F w.drew := Ext.same rfl rfl rfl rfl
theorem StoreRel.drew (hs : StoreRel β F w S) : StoreRel β F w.drew S := hs.same rfl
theorem Rep.drew {v : AV} {x : Value} (h : Rep β F w v x) : Rep β F w.drew v x := Rep.keep (Keeps.same (w := w) (w' := w.drew) rfl) v x h
theorem RepL.drew {v : List AV} {x : List Value} (h : RepL β F w v x) : RepL β F w.drew v x := RepL.keep (Keeps.same (w := w) (w' := w.drew) rfl) v x h

theorem cell_some {blk o n : Nat} {ty : Nat} (h : w.shape? blk = some (ty, n)) (ho : o < n) : ∃ v, w.cell? ⟨blk, o, none⟩ = some v := by
  unfold World.shape? at h
  split at h
  · rename_i c elem fr hc
    injection h with h; injection h with h1 h2
    have hlt : o < c.size := by omega
    exact ⟨c[o], by simp [World.cell?, hc, hlt]⟩
  · cases h

/-- A row written beyond what was known of it. -/
theorem grow_ok (hs : StoreRel β F w S) {b g off : Nat} {cs vs : List AV} {ty : Nat} {sk : Bool} {ys : List Value} {i : BI} (hb : S[b]? = some (.cells cs ty g sk)) (hi : β[b]? = some i)
    (hle : off ≤ cs.length) (hsz : i.base + cs.length + vs.length ≤ i.size) (hr : RepL β F w vs ys) (ho : ∀ y ∈ ys, y.oneCell' = true) :
    ∃ w', (storeCells ⟨i.blk, i.base + cs.length, none⟩ ys).run P w = .ok () w' ∧
      StoreRel (β.set b ⟨i.blk, i.base + off, i.size, g + 1⟩) F w' (S.set b (.cells (cs.drop off ++ vs) ty (g + 1) true)) ∧ Ext β F w (β.set b ⟨i.blk, i.base + off, i.size, g + 1⟩) F w' := by
  obtain ⟨h0, h1, h2, h3, h4, h5⟩ := hs.box b _ i hb hi
  have h0 : g = i.gen := h0
  have hlen := RepL.length hr
  obtain ⟨w', hrun, hwr⟩ := storeCells_run (P := P) i.blk (i.base + cs.length) ys 0 w ho (fun k hk => by
    exact ⟨cell_some h1 (by omega), h2 _ (by omega)⟩)
  simp only [Nat.add_zero] at hwr
  have hk0 : Keeps β F w β F w' := ⟨fun _ h => h, fun k hk _ => hwr.other k (fun he => hs.nF b _ i hb rfl hi (he ▸ hk)), fun _ i h => ⟨i, h, Nat.le_refl _, fun _ => rfl⟩⟩
  have hbl : b < β.length := (List.getElem?_eq_some_iff.1 hi).1
  have hk1 : Keeps β F w' (β.set b ⟨i.blk, i.base + off, i.size, g + 1⟩) F w' := ⟨fun _ h => h, fun _ _ _ => rfl, fun c j hj => by
    by_cases hc : c = b
    · subst hc
      rw [hi] at hj; injection hj with hj; subst hj
      exact ⟨_, List.getElem?_set_self hbl, by simp; omega, fun he => by simp at he; omega⟩
    · exact ⟨j, by rw [List.getElem?_set_ne (Ne.symm hc)]; exact hj, Nat.le_refl _, fun _ => rfl⟩⟩
  obtain ⟨hS, hE⟩ := StoreRel.upd hs (x' := .cells (cs.drop off ++ vs) ty (g + 1) true) (i' := ⟨i.blk, i.base + off, i.size, g + 1⟩) (w' := w') hb hi (by rw [hwr.size]; exact Nat.le_refl _) hwr.tape hwr.os hwr.out (fun k _ hk => hwr.other k hk) rfl
    (by simp; omega) (fun he => by simp at he; omega) rfl (.inl rfl) ⟨by simp only; rw [hwr.shape]; exact h1, fun o hlt => by simp only; rw [hwr.frozen]; exact h2 o hlt, by simp; omega, by simp, by
      simp only
      refine RepAt.append ?_ ?_
      · have hd := RepAt.drop off h5
        refine RepAt.keep' hk1 i.blk _ _ (fun _ _ => rfl) (RepAt.keep' hk0 i.blk _ _ (fun k hk => ?_) hd)
        rw [hwr.cell, if_neg (by simp at hk; omega)]
      · refine RepAt.of_list (RepL.keep hk1 _ _ (RepL.keep hk0 _ _ hr)) ho fun k v hk => ?_
        have hlt := (List.getElem?_eq_some_iff.1 hk).1
        rw [hwr.cell, if_pos (by simp; omega)]
        rw [← hk]; congr 1; simp; omega⟩
  exact ⟨w', hrun, hS, hE⟩

/-- A box's row is made anew elsewhere. -/
theorem remake_ok (hs : StoreRel β F w S) {b g : Nat} {cs cs' : List AV} {ty : Nat} {sk : Bool} {a : Array Value} {i : BI} (hb : S[b]? = some (.cells cs ty g sk)) (hi : β[b]? = some i)
    (hr : RepL β F w cs' (a.toList.take cs'.length)) (ho : ∀ y ∈ a.toList, y.oneCell' = true) (hle : cs'.length ≤ a.size) :
      StoreRel (β.set b ⟨w.heap.size, 0, a.size, g + 1⟩) F (w.alloc (.cells a ty)) (S.set b (.cells cs' ty (g + 1) true)) ∧ Ext β F w (β.set b ⟨w.heap.size, 0, a.size, g + 1⟩) F (w.alloc (.cells a ty)) := by
  obtain ⟨h0, h1, h2, h3, h4, h5⟩ := hs.box b _ i hb hi
  have h0 : g = i.gen := h0
  have hg : (w.alloc (.cells a ty)).heap[w.heap.size]? = some (.cells a ty) := by rw [heap_alloc, if_pos rfl]
  have hbl : b < β.length := (List.getElem?_eq_some_iff.1 hi).1
  have hk1 : Keeps β F w (β.set b ⟨w.heap.size, 0, a.size, g + 1⟩) F (w.alloc (.cells a ty)) := ⟨fun _ h => h, fun k _ hk => by rw [heap_alloc, if_neg (by omega)], fun c j hj => by
    by_cases hc : c = b
    · subst hc
      rw [hi] at hj; injection hj with hj; subst hj
      exact ⟨_, List.getElem?_set_self hbl, by simp; omega, fun he => by simp at he; omega⟩
    · exact ⟨j, by rw [List.getElem?_set_ne (Ne.symm hc)]; exact hj, Nat.le_refl _, fun _ => rfl⟩⟩
  refine StoreRel.upd hs (x' := .cells cs' ty (g + 1) true) (i' := ⟨w.heap.size, 0, a.size, g + 1⟩) (w' := w.alloc (.cells a ty)) hb hi (by simp) rfl rfl rfl (fun k hk _ => by rw [heap_alloc, if_neg (by omega)]) rfl
    (by simp; omega) (fun he => by simp at he; omega) rfl (.inr ⟨by simp, by simp⟩) ⟨by simp only [World.shape?, hg], fun o _ => by simp only [World.frozen?, hg]; simp, by simpa using hle, by simp, ?_⟩
  refine RepAt.of_list (RepL.keep hk1 _ _ hr) (fun y hy => ho y (List.mem_of_mem_take hy)) fun k v hk => ?_
  have hk' : a.toList[k]? = some v := by
    rw [List.getElem?_take] at hk; split at hk <;> simp_all
  have : a[k]? = some v := by rw [← Array.getElem?_toList]; exact hk'
  simp only [World.cell?, hg]; simp [this]

/-- What lies behind may be forgotten. -/
theorem trunc_ok (hs : StoreRel β F w S) {b g ty : Nat} {cs : List AV} {sk : Bool} (hb : S[b]? = some (.cells cs ty g sk)) (m : Nat) : StoreRel β F w (S.set b (.cells (cs.take m) ty g true)) := by
  have hlt : b < β.length := by rw [← hs.len]; exact (List.getElem?_eq_some_iff.1 hb).1
  have hi : β[b]? = some β[b] := List.getElem?_eq_getElem hlt
  generalize β[b] = i at hi
  obtain ⟨q0, q1, q2, q3, q4, q5⟩ := hs.box b _ i hb hi
  have hupd := StoreRel.upd hs (x' := .cells (cs.take m) ty g true) (i' := i) (w' := w) hb hi (Nat.le_refl _) rfl rfl rfl (fun _ _ _ => rfl) rfl (Nat.le_refl _) (fun _ => rfl) q0 (.inl rfl)
  rw [set_same hi] at hupd
  exact (hupd ⟨q1, q2, by simp; omega, by simp, RepAt.take m q5⟩).1

theorem app_ok (hs : StoreRel β F w S) {T st xt el sz bytes n : Nat} {ats : Array TypeId} (t0 : ats[0]? = some st) (t1 : ats[1]? = some xt) {z : AV} {isStr : Bool} {sv xv v : AV} {sx xx : Value} {new : List AV} {S' : Store}
    (hst : P.underlying st = some (.slice el)) (hxt : ∃ d, P.underlying xt = some d ∧ ∀ k, d ≠ .int k) (hn : tSize P el = some sz) (hb : tBytes P el = some bytes) (hz : tZero P el = some z) (hzl : z.parts.length = sz) (hsz : 0 < sz) (hbb : bytes ≤ 1048576)
    (h1 : isStr = true → sz = 1) (hsv : Rep β F w sv sx) (hxv : Rep β F w xv xx) (hsrc : srcOf S sz isStr xv = some (n, new)) (h : appV S el sz bytes n new sv = some (v, S')) :
    VOK P β F w (Builtin.append_ ats T #[sx, xx]) v S' := by
  obtain ⟨ys, hlen, hcells, hr, ho, hnl⟩ := src_run (P := P) hs hxv hsrc h1
  obtain ⟨ys', hlen', hcells', hr', ho', hnl'⟩ := src_run (P := P) (w := w.drew) (StoreRel.drew hs) (Rep.drew hxv) hsrc h1
  have hyy : ys.length = new.length := RepL.length hr
  have hyy' : ys'.length = new.length := RepL.length hr'
  -- a slice without a place of its own
  have fresh : ∀ (base : Option Addr), sx = .slice base 0 0 → n ≠ 0 → appNew S el sz bytes n new = some (v, S') → VOK P β F w (Builtin.append_ ats T #[sx, xx]) v S' := by
    intro base hsx hn0 hnew
    unfold appNew at hnew
    split at hnew
    · rename_i hc
      injection hnew with hnew; injection hnew with hv hS; subst hv; subst hS
      have hold : (Builtin.firstCells sz 0 (.slice base 0 0)).run P w.drew = .ok ([] : List Value).toArray w.drew := by
        cases base <;> simp [Builtin.firstCells, loadCells, loadCellsFrom]
      obtain ⟨newCap, rest, hcap, hro, hlenT, hrun⟩ := realloc_run (T := T) t0 t1 (base := base) (len := 0) (cap := 0) (olds := []) hst hxt hn hb hz hzl hold hlen hcells' (by omega) hbb (by simpa using hc.1) (by simpa using hc.2) (by simp) (by omega)
      simp only [List.nil_append, Nat.zero_add] at hrun hlenT hcap
      obtain ⟨_, r2, r3⟩ := newRow_ok (P := P) (StoreRel.drew hs) (ty := el) (cs := new) (a := (ys' ++ rest).toArray) true (by rw [← hyy']; simp only [List.toList_toArray]; rw [List.take_left]; exact hr')
        (by intro y hy; simp at hy; rcases hy with hy | hy; exact ho' y hy; exact hro y hy) (by simp; omega) (by simp)
      refine ⟨_, _, _, F, by rw [hsx]; exact hrun, ?_, r2, (Ext.drew β F w).trans r3⟩
      exact sl_new (StoreRel.drew hs) _ hcap (by simp) (fun _ => by simp only [List.length_append] at hlenT; simp [List.size_toArray, hlenT])
    · cases hnew
  cases sv <;> simp only [appV] at h <;> (try (cases h; done))
  case nsl =>
    cases hsv
    split at h
    · rename_i h0; subst h0
      injection h with h; injection h with hv hS; subst hv; subst hS
      have hy0 : ys = [] := List.length_eq_zero_iff.1 (by omega)
      exact VOK.here hs (by rw [inplace_run t0 t1 hst hxt hn hlen hcells (by omega)]) rfl
    · rename_i h0; exact fresh none rfl h0 h
  case esl =>
    obtain ⟨a, rfl⟩ := hsv
    split at h
    · rename_i h0; subst h0
      injection h with h; injection h with hv hS; subst hv; subst hS
      have hy0 : ys = [] := List.length_eq_zero_iff.1 (by omega)
      subst hy0
      refine VOK.here hs (x := .slice a 0 0) ?_ ⟨a, rfl⟩
      rw [inplace_run t0 t1 hst hxt hn hlen hcells (by omega)]
      cases a <;> simp [storeCells]
    · rename_i h0; exact fresh a rfl h0 h
  case sl b g off sz' ln cp =>
    split at h
    · rename_i hsz'; subst hsz'
      split at h
      · rename_i cs ty' gen sk hb'
        split at h
        · rename_i hc
          obtain ⟨rfl, hc1, hc2, hc3⟩ := hc
          have hlt : b < β.length := by rw [← hs.len]; exact (List.getElem?_eq_some_iff.1 hb').1
          have hi : β[b]? = some β[b] := List.getElem?_eq_getElem hlt
          generalize β[b] = i at hi
          obtain ⟨q0, q1, q2, q3, q4, q5⟩ := hs.box b _ i hb' hi
          have q0 : g = i.gen := q0
          obtain ⟨i', a, c, e1, e2, rfl, e3, e4, e5⟩ := hsv
          rw [hi] at e1; injection e1 with e1; subst e1
          obtain ⟨ha, ecap⟩ := e5 q0
          subst ha
          split at h
          · rename_i h0; subst h0
            injection h with h; injection h with hv hS; subst hv; subst hS
            have hy0 : ys = [] := List.length_eq_zero_iff.1 (by omega)
            subst hy0
            refine VOK.here hs (x := .slice (some ⟨i.blk, i.base + off, none⟩) ln c) ?_ ⟨i, _, c, hi, e2, rfl, e3, e4, e5⟩
            rw [inplace_run t0 t1 hst hxt hn hlen hcells (by omega)]
            simp [storeCells]
          · rename_i h0
            -- the old cells
            have holds : ∃ olds, (Builtin.firstCells sz' ln (.slice (some ⟨i.blk, i.base + off, none⟩) ln c)).run P w.drew = .ok olds.toArray w.drew ∧ RepL β F w.drew ((cs.drop off).take (ln * sz')) olds ∧
                (∀ y ∈ olds, y.oneCell' = true) ∧ olds.length = ln * sz' := by
              have hrd : slRd S (ln * sz') (.sl b g off sz' ln cp) = some ((cs.drop off).take (ln * sz')) := by
                simp [slRd, boxRd, hb', hc1]
              obtain ⟨a, l, c', olds, he, o1, o2, o3, o4⟩ := slRd_run (P := P) (w := w.drew) (StoreRel.drew hs) (Rep.drew (v := .sl b g off sz' ln cp) ⟨i, _, c, hi, e2, rfl, e3, e4, e5⟩) hrd
              injection he with he1 he2 he3; subst he1
              exact ⟨olds, by simpa [Builtin.firstCells] using o4, o1, o2, by rw [RepL.length o1, o3]⟩
            obtain ⟨olds, ho1, ho2, ho3, ho4⟩ := holds
            split at h
            · -- the capacity reaches the block's end
              split at h
              · rename_i hcc
                subst hcc
                injection h with h; injection h with hv hS; subst hv; subst hS
                have hbound := ecap rfl
                by_cases hfit : ln + n ≤ c
                · have hm : (ln + n) * sz' ≤ c * sz' := Nat.mul_le_mul_right _ hfit
                  rw [Nat.add_mul] at hm
                  have hbS : b < S.length := (List.getElem?_eq_some_iff.1 hb').1
                  have htl : (cs.take (off + ln * sz')).length = off + ln * sz' := by simp; omega
                  obtain ⟨w', g1, g2, g3⟩ := grow_ok (P := P) (trunc_ok hs hb' (off + ln * sz')) (off := off) (List.getElem?_set_self hbS) hi (by omega) (by omega) hr ho
                  rw [List.set_set, show (cs.take (off + ln * sz')).drop off = (cs.drop off).take (ln * sz') by rw [List.drop_take]; congr 1; omega] at g2
                  rw [htl] at g1
                  refine ⟨.slice (some ⟨i.blk, i.base + off, none⟩) (ln + n) c, w', _, F, ?_, ?_, g2, g3⟩
                  · rw [inplace_run t0 t1 hst hxt hn hlen hcells hfit]
                    simp only [addr_add]
                    rw [show i.base + off + ln * sz' = i.base + (off + ln * sz') by omega, g1]; rfl
                  · exact ⟨_, _, c, List.getElem?_set_self hlt, Nat.le_refl _, rfl, hfit, by simp, fun _ => ⟨by simp, fun _ => by simp; omega⟩⟩
                · obtain ⟨newCap, rest, hcap, hro, hlenT, hrun⟩ := realloc_run (T := T) t0 t1 hst hxt hn hb hz hzl ho1 hlen hcells' (by omega) hbb hc2 hc3 ho4 (by omega)
                  obtain ⟨r2, r3⟩ := remake_ok (StoreRel.drew hs) (cs' := (cs.drop off).take (ln * sz') ++ new) (a := (olds ++ ys' ++ rest).toArray) hb' hi
                    (by
                      have hl2 : ((cs.drop off).take (ln * sz') ++ new).length = (olds ++ ys').length := by simp only [List.length_append]; rw [← RepL.length ho2, hyy']
                      rw [hl2]; simp only [List.toList_toArray] 
                      rw [List.take_left]
                      exact RepL.append ho2 hr')
                    (by intro y hy; simp at hy; rcases hy with hy | hy | hy; exact ho3 y hy; exact ho' y hy; exact hro y hy)
                    (by have := RepL.length ho2; simp at this ⊢; omega)
                  refine ⟨_, _, _, F, hrun, ?_, r2, (Ext.drew β F w).trans r3⟩
                  refine ⟨_, _, newCap, List.getElem?_set_self hlt, Nat.le_refl _, rfl, hcap, by simp, fun _ => ⟨by simp, fun _ => ?_⟩⟩
                  simp only [Nat.zero_add]
                  rw [← hlenT]; simp
              · cases h
            · rename_i c'
              have hcc := e4 _ rfl
              subst hcc
              split at h
              · rename_i hfit
                split at h
                · rename_i S'' hw
                  injection h with h; injection h with hv hS; subst hv; subst hS
                  obtain ⟨w', g1, g2, g3⟩ := write_ok (P := P) hs hw hi q0.symm hr ho
                  refine ⟨.slice (some ⟨i.blk, i.base + off, none⟩) (ln + n) c, w', β, F, ?_, ?_, g2, g3⟩
                  · rw [inplace_run t0 t1 hst hxt hn hlen hcells hfit]
                    simp only [addr_add]
                    rw [show i.base + off + ln * sz' = i.base + (off + ln * sz') by omega, g1]; rfl
                  · exact ⟨i, _, c, hi, e2, rfl, hfit, by simp, fun hgi => ⟨rfl, by simp⟩⟩
                · cases h
              · rename_i hfit
                injection h with h; injection h with hv hS; subst hv; subst hS
                obtain ⟨newCap, rest, hcap, hro, hlenT, hrun⟩ := realloc_run (T := T) t0 t1 hst hxt hn hb hz hzl ho1 hlen hcells' (by omega) hbb hc2 hc3 ho4 (by omega)
                have hl2 : ((cs.drop off).take (ln * sz') ++ new).length = (olds ++ ys').length := by simp only [List.length_append]; rw [← RepL.length ho2, hyy']
                obtain ⟨_, r2, r3⟩ := newRow_ok (P := P) (StoreRel.drew hs) (ty := el) (cs := (cs.drop off).take (ln * sz') ++ new) (a := (olds ++ ys' ++ rest).toArray) true
                  (by rw [hl2]; simp only [List.toList_toArray]; rw [List.take_left]; exact RepL.append ho2 hr')
                  (by intro y hy; simp at hy; rcases hy with hy | hy | hy; exact ho3 y hy; exact ho' y hy; exact hro y hy)
                  (by rw [hl2]; simp) (by simp)
                refine ⟨_, _, _, F, hrun, ?_, r2, (Ext.drew β F w).trans r3⟩
                exact sl_new (StoreRel.drew hs) _ hcap (by simp) (fun _ => by rw [List.size_toArray, hlenT]; exact Nat.le_refl _)
        · cases h
      · cases h
    · cases h

end Go.AM
