import GoSem.Dispatch
set_option linter.all false
namespace Go.Proofs.YtmadknpaljaecaaGreatDoor.Ev
open Go

/-! Numbers and strings that the kernel computes with quickly. -/

/-- A string: its length, and its bytes as one number, the first byte highest. -/
structure BStr where
  n : Nat
  v : Nat
  deriving Inhabited, DecidableEq

namespace BStr
def empty : BStr := ⟨0, 0⟩
def at_ (s : BStr) (i : Nat) : Nat := (s.v >>> (8 * (s.n - 1 - i))) % 256
def slice (s : BStr) (l u : Nat) : BStr := ⟨u - l, (s.v >>> (8 * (s.n - u))) % 2 ^ (8 * (u - l))⟩
def app (a b : BStr) : BStr := ⟨a.n + b.n, a.v * 2 ^ (8 * b.n) + b.v⟩
def beq (a b : BStr) : Bool := Nat.beq a.n b.n && Nat.beq a.v b.v
def lt (a b : BStr) : Bool :=
  let m := min a.n b.n
  let p := a.v >>> (8 * (a.n - m))
  let q := b.v >>> (8 * (b.n - m))
  bif Nat.beq p q then Nat.blt a.n b.n else Nat.blt p q
def push (s : BStr) (b : Nat) : BStr := ⟨s.n + 1, s.v * 256 + b⟩
def ofNats : List Nat → BStr → BStr
  | [], s => s
  | b :: r, s => ofNats r (s.push b)
def ofBytes (l : List UInt8) : BStr := ofNats (l.map UInt8.toNat) empty
/-- from place i on, n bytes, as numbers -/
def bytesFrom (s : BStr) : Nat → Nat → List Nat
  | 0, _ => []
  | n + 1, i => s.at_ i :: bytesFrom s n (i + 1)
def bytes (s : BStr) : List Nat := s.bytesFrom s.n 0
end BStr

/-- force a number -/
@[inline] def fNat {β : Type} (n : Nat) (k : Nat → β) : β := match n with
  | 0 => k 0
  | p + 1 => k (Nat.succ p)
@[inline] def fInt {β : Type} (n : Int) (k : Int → β) : β := match n with
  | .ofNat m => fNat m fun m => k (.ofNat m)
  | .negSucc m => fNat m fun m => k (.negSucc m)

def wrapF (k : IntKind) (n : Int) : Int :=
  match n with
  | .ofNat m => (match k with
    | .i64 => bif Nat.blt m 9223372036854775808 then .ofNat m else k.wrap (.ofNat m)
    | .u64 => .ofNat (m % 18446744073709551616)
    | .u8 => .ofNat (m % 256)
    | .u32 => .ofNat (m % 4294967296)
    | .i32 => bif Nat.blt m 2147483648 then .ofNat m else k.wrap (.ofNat m)
    | k => k.wrap (.ofNat m))
  | .negSucc m => (match k with
    | .i64 => bif Nat.blt m 9223372036854775808 then .negSucc m else k.wrap (.negSucc m)
    | .i32 => bif Nat.blt m 2147483648 then .negSucc m else k.wrap (.negSucc m)
    | k => k.wrap (.negSucc m))

def eqI (x y : Int) : Bool := match x, y with
  | .ofNat a, .ofNat b => Nat.beq a b
  | .negSucc a, .negSucc b => Nat.beq a b
  | _, _ => false
def ltI (x y : Int) : Bool := match x, y with
  | .ofNat a, .ofNat b => Nat.blt a b
  | .negSucc a, .negSucc b => Nat.blt b a
  | .negSucc _, .ofNat _ => true
  | .ofNat _, .negSucc _ => false
def leI (x y : Int) : Bool := match x, y with
  | .ofNat a, .ofNat b => Nat.ble a b
  | .negSucc a, .negSucc b => Nat.ble b a
  | .negSucc _, .ofNat _ => true
  | .ofNat _, .negSucc _ => false
def Mk (k : IntKind) : Nat := match k with
  | .i8 | .u8 => 256 | .i16 | .u16 => 65536 | .i32 | .u32 => 4294967296 | .i64 | .u64 => 18446744073709551616
def modM (k : IntKind) (x : Int) : Nat := match x with
  | .ofNat m => m % Mk k
  | .negSucc m => Mk k - 1 - m % Mk k
def andF (k : IntKind) (x y : Int) : Int := wrapF k (.ofNat (Nat.land (modM k x) (modM k y)))
def orF (k : IntKind) (x y : Int) : Int := wrapF k (.ofNat (Nat.lor (modM k x) (modM k y)))
def xorF (k : IntKind) (x y : Int) : Int := wrapF k (.ofNat (Nat.xor (modM k x) (modM k y)))
def andNotF (k : IntKind) (x y : Int) : Int := wrapF k (.ofNat (Nat.land (modM k x) (Mk k - 1 - modM k y)))
def shlF (k : IntKind) (x : Int) (n : Nat) : Int := match x with
  | .ofNat m => wrapF k (.ofNat (Nat.shiftLeft m n))
  | .negSucc m => k.wrap (.negSucc m * 2 ^ n)
def shrF (x : Int) (n : Nat) : Int := match x with
  | .ofNat m => .ofNat (Nat.shiftRight m n)
  | .negSucc m => .negSucc (Nat.shiftRight m n)

/-! Trees keyed by numbers. -/
inductive T (α : Type) where
  | nil
  | node (l : T α) (x : Option α) (r : T α)
  deriving Inhabited

namespace T
variable {α : Type}
def get : T α → Nat → Option α
  | nil, _ => none
  | node l x r, n => match n with
    | 0 => x
    | m + 1 => bif Nat.beq (m % 2) 0 then l.get (m / 2) else r.get (m / 2)
def single : Nat → Nat → α → T α
  | 0, _, _ => nil
  | f + 1, n, v => match n with
    | 0 => node nil (some v) nil
    | m + 1 => bif Nat.beq (m % 2) 0 then node (single f (m / 2) v) none nil else node nil none (single f (m / 2) v)
def set : T α → Nat → α → T α
  | nil, n, v => single (n + 1) n v
  | node l x r, n, v => match n with
    | 0 => node l (some v) r
    | m + 1 => bif Nat.beq (m % 2) 0 then node (l.set (m / 2) v) x r else node l x (r.set (m / 2) v)
def singleK {β : Type} : Nat → Nat → α → (T α → β) → β
  | 0, _, _, k => k nil
  | f + 1, n, v, k => match n with
    | 0 => k (node nil (some v) nil)
    | m + 1 => bif Nat.beq (m % 2) 0 then singleK f (m / 2) v fun t => k (node t none nil) else singleK f (m / 2) v fun t => k (node nil none t)
/-- 'set', forced: the kernel holds the new tree written out. -/
def setK {β : Type} : T α → Nat → α → (T α → β) → β
  | nil, n, v, k => singleK (n + 1) n v k
  | node l x r, n, v, k => match n with
    | 0 => k (node l (some v) r)
    | m + 1 => bif Nat.beq (m % 2) 0 then l.setK (m / 2) v fun t => k (node t x r) else r.setK (m / 2) v fun t => k (node l x t)
def del : T α → Nat → T α
  | nil, _ => nil
  | node l x r, n => match n with
    | 0 => node l none r
    | m + 1 => bif Nat.beq (m % 2) 0 then node (l.del (m / 2)) x r else node l x (r.del (m / 2))
end T

end Go.Proofs.YtmadknpaljaecaaGreatDoor.Ev
namespace Go.Proofs.YtmadknpaljaecaaGreatDoor.Ev
open Go

/-- Abstract values. -/
inductive AV where
  | dead
  | undef
  | bool (b : Bool)
  | int (k : IntKind) (n : Int)
  | float (k : FloatKind) (b : Nat)
  /-- some NaN -/
  | nan (k : FloatKind)
  | str (s : BStr)
  | nilPtr | nilSl | nilMap | nilFn | nilIf
  | agg (cs : List AV)
  | tup (vs : List AV)
  | ref (b off : Nat)
  | sl (b off len es : Nat) (cap : Option Nat)
  | iptr (w : Bool) (cs : List AV)
  | isl (w : Bool) (len : Nat) (cs : List AV)
  | iface (t : Nat) (v : AV)
  | fn (f : Nat) (first cap : List AV)
  | mref (b : Nat)
  | imap (w : Bool) (ks vs : List AV)
  deriving Inhabited

/-- Blocks: n cells, d where the tree is silent; op: the machine's block may be longer. -/
inductive Blk where
  | cells (n : Nat) (d : AV) (cs : T AV) (elem : Nat) (op : Bool)
  | siter (s : BStr) (pos : Nat)
  | amap (ks vs : List AV)
  deriving Inhabited

structure Heap where
  t : T Blk
  next : Nat
  deriving Inhabited

namespace Heap
def get (h : Heap) (b : Nat) : Option Blk := h.t.get b
def set (h : Heap) (b : Nat) (x : Blk) : Heap := ⟨h.t.set b x, h.next⟩
def del (h : Heap) (b : Nat) : Heap := ⟨h.t.del b, h.next⟩
def new (h : Heap) (x : Blk) : Heap := ⟨h.t.set h.next x, h.next + 1⟩
def empty : Heap := ⟨.nil, 0⟩
end Heap

inductive XO where
  | t (n : Nat)
  | c (v : AV)
  | g (n : Nat)
  deriving Inhabited

/-- zero cells: how many, what they are but for the listed ones -/
structure Zs where
  n : Nat
  d : AV
  l : List (Nat × AV)
  deriving Inhabited

/-- what kind of == -/
inductive EqK where
  | bool | ptr | sl | map | fn
  /-- an interface; true: one operand is the literal nil -/
  | iface (known : Bool) (ts : List Nat)
  deriving Inhabited

inductive PA where
  | bin (op : BinOp) (x y : XO)
  | eq (neg : Bool) (k : EqK) (x y : XO)
  | un (op : UnOp) (x : XO)
  | ext (x : XO) (i : Nat)
  | lenS (x : XO) | lenSl (x : XO) | capSl (x : XO)
  | nilchk (x : XO)
  | fa (off : Nat) (x : XO)
  | iaS (size : Nat) (x i : XO)
  | iaA (len size : Nat) (x i : XO)
  | ixS (x i : XO)
  | cvI (k : IntKind) (x : XO)
  | slS (x : XO) (lo hi : Option XO)
  | sid (x : XO)
  deriving Inhabited

inductive PB where
  | build (zs : List AV) (ps : List (Nat × Nat × XO))
  | cvF (k : FloatKind) (x : XO)
  | cvFI (k : IntKind) (x : XO)
  | cvFF (k : FloatKind) (x : XO)
  | cvIS (x : XO)
  | mkI (t : Nat) (x : XO)
  | mkF (f : Nat) (first cap : List XO)
  | slSl (size : Nat) (x : XO) (lo hi : Option XO)
  | slA (len size : Nat) (x : XO) (lo hi : Option XO)
  | fld (agg : Bool) (off n : Nat) (x : XO)
  | ixA (agg : Bool) (len n : Nat) (x i : XO)
  | ta (t : Nat) (zero : AV) (ok : Bool) (x : XO)
  | mn (args : List XO) | mx (args : List XO)
  | usd (x : XO)
  | fbits (k : FloatKind) (x : XO)
  | ffrom (k : FloatKind) (x : XO)
  | ixB (s c : XO)
  | ixSt (a b : XO)
  | cnt (s c : XO)
  | trunc (x : XO)
  deriving Inhabited

inductive HA where
  | ld (agg : Bool) (n : Nat) (p : XO)
  | st (n : Nat) (p x : XO)
  | new (elem : Nat) (zs : Zs)
  | box (elem : Nat) (n : Nat) (x : XO)
  | bsl (elem len : Nat) (zs : List AV) (ps : List (Nat × Nat × XO))     -- zs: len * size cells
  | app (elem size lim : Nat) (x y : XO)
  deriving Inhabited

inductive HB where
  | cvSB (elem : Nat) (x : XO)
  | cvBS (x : XO)
  | cvP (t size : Nat) (x : XO)
  | mkMap
  | ins (s : Bool) (m k v : XO)
  | lkp (s : Bool) (zero : AV) (ok : Bool) (x i : XO)
  | mksl (elem size lim : Nat) (zs : List AV) (l c : XO)
  | rngS (x : XO)
  | nxtS (it : XO)
  | lenM (x : XO)
  | cpy (size : Nat) (x y : XO)
  | us (elem : Nat) (p n : XO)
  | mkNZ (elem : Nat) (x : XO)
  deriving Inhabited

inductive XOp where
  | mv (x : XO)
  | p (o : PA)
  | h (o : HA)
  | call (f : Nat) (args : List XO)
  | pick (c a b : XO)
  | q (o : PB)
  | g (o : HB)
  | callv (f : XO) (args : List XO)
  | panic (x : XO)
  | bad
  deriving Inhabited

structure XOper where
  dst : Option Nat
  op : XOp
  grd : Option (Nat × Bool)
  deriving Inhabited

/-- an operation of a region that draws its order: it may write; it reads the memory, of which so many writers have run, at least and at most; it looks at no memory -/
inductive DI where
  | wr
  | rd (lo hi : Nat)
  | free
  deriving Inhabited

inductive XCode where
  | skip
  | reg (ops : List XOper)
  | draw (ops : List (XOper × DI))
  | seq (a b : XCode)
  | cond (c : XO) (a b : XCode)
  | block (id : Nat) (c : XCode)
  | loop (c : XCode)
  | exit (id : Nat)
  | scope (c : XCode)
  | scopeAt (c cur : XCode)
  | label (l : Nat)
  | goto (l : Nat)
  | ret
  | bad
  deriving Inhabited

inductive XRes where
  | tmp (t : Nat)
  | cell (t : Nat) (agg : Bool) (n : Nat)
  deriving Inhabited

structure XFn where
  nparams : Nat
  results : List XRes
  body : XCode
  pure : Bool
  deriving Inhabited

inductive XExit where
  | nrm | exit (id : Nat) | goto (l : Nat) | ret | panic (v : AV)
  deriving Inhabited

inductive OpR where
  | ok (v : AV) (h : Heap)
  | panic (v : AV) (h : Heap)
  | no (why : Nat)
  deriving Inhabited

inductive Out where
  | ok (e : XExit) (env : T AV) (h : Heap)
  | no (why : Nat)
  deriving Inhabited

structure Ctx where
  fns : Nat → Option XFn
  glob : Nat → AV
  /-- functions that are known by what they answer -/
  sum : Nat → Option (List AV → Heap → OpR) := fun _ => none

def T.at (env : T AV) (n : Nat) : AV := (env.get n).getD .undef

def eval (C : Ctx) (env : T AV) : XO → AV
  | .t n => env.at n
  | .c v => v
  | .g k => C.glob k

def cellsOf : AV → List AV
  | .agg cs => cs
  | v => [v]

/-- what a cell can hold -/
def okCell : AV → Bool
  | .dead | .undef | .agg _ | .tup _ => false
  | _ => true

/-- cells off, .., off + n - 1 of a block -/
def rdCells (d : AV) (cs : T AV) : Nat → Nat → List AV
  | 0, _ => []
  | n + 1, off => (cs.get off).getD d :: rdCells d cs n (off + 1)

def wr (cs : T AV) : List AV → Nat → T AV
  | [], _ => cs
  | v :: r, off => wr (cs.set off v) r (off + 1)

def rd (n : Nat) (d : AV) (cs : T AV) (off m : Nat) : Option (List AV) :=
  bif Nat.ble (off + m) n then some (rdCells d cs m off) else none

def mapO {α β : Type} (f : α → Option β) : List α → Option (List β)
  | [] => some []
  | a :: r => match f a with
    | none => none
    | some b => match mapO f r with
      | none => none
      | some bs => some (b :: bs)

/-- deep copy into immutable values: `w` marks what is borrowed. -/
def conv (w : Bool) (h : Heap) : Nat → AV → Option AV
  | 0, _ => none
  | f + 1, v => match v with
    | .agg cs => (mapO (conv w h f) cs).map .agg
    | .tup cs => (mapO (conv w h f) cs).map .tup
    | .iface t v => (conv w h f v).map (.iface t)
    | .ref b off => match h.get b with
      | some (.cells n d cs _ _) => bif Nat.ble off n then (mapO (conv w h f) (rdCells d cs (n - off) off)).map (.iptr w) else none
      | _ => none
    | .sl b off len _ _ => match h.get b with
      | some (.cells n d cs _ _) => bif Nat.ble off n then (mapO (conv w h f) (rdCells d cs (n - off) off)).map (.isl w len) else none
      | _ => none
    | .mref b => match h.get b with
      | some (.amap ks vs) => match mapO (conv w h f) ks, mapO (conv w h f) vs with
        | some ks, some vs => some (.imap w ks vs)
        | _, _ => none
      | _ => none
    | .fn g a b => match mapO (conv w h f) a, mapO (conv w h f) b with
      | some a, some b => some (.fn g a b)
      | _, _ => none
    | .isl b len cs => bif b && !w then none else some (.isl b len cs)
    | .iptr b cs => bif b && !w then none else some (.iptr b cs)
    | .imap b ks vs => bif b && !w then none else some (.imap b ks vs)
    | .dead => none
    | v => some v

def eqv : AV → AV → Option Bool
  | .bool a, .bool b => some (a == b)
  | .int k a, .int k' b => if k = k' then some (eqI a b) else none
  | .str a, .str b => some (a.beq b)
  | _, _ => none

def eqAll : List AV → List AV → Option Bool
  | [], [] => some true
  | a :: x, b :: y => match eqv a b with
    | some true => eqAll x y
    | some false => some false
    | none => none
  | _, _ => none

/-- nil or not, of a kind -/
def isNil : EqK → AV → Option Bool
  | .ptr, .nilPtr => some true
  | .ptr, .ref _ _ => some false
  | .ptr, .iptr _ _ => some false
  | .sl, .nilSl => some true
  | .sl, .sl _ _ _ _ _ => some false
  | .sl, .isl _ _ _ => some false
  | .map, .nilMap => some true
  | .map, .mref _ => some false
  | .map, .imap _ _ _ => some false
  | .fn, .nilFn => some true
  | .fn, .fn _ _ _ => some false
  | .iface _ _, .nilIf => some true
  | .iface _ _, .iface _ _ => some false
  | _, _ => none

/-- two values of which one is nil -/
def eqNil (k : EqK) (x y : AV) : Option Bool :=
  match isNil k x, isNil k y with
  | some true, some true => (match k with | .iface false _ => none | _ => some true)
  | some true, some false => some false
  | some false, some true => some false
  | _, _ => none

/-- what == says beyond numbers and strings: bools; a pointer to a live block against one to the same block; against nil -/
def eqTop (k : EqK) (x y : AV) : Option Bool :=
  match k with
  | .bool => (match x, y with | .bool a, .bool b => some (a == b) | _, _ => none)
  | .ptr => (match x, y with
    | .ref b o, .ref b' o' => bif Nat.beq b b' then some (Nat.beq o o') else none
    | x, y => eqNil .ptr x y)
  | .iface kn ts => (match x, y with
    | .iface t v, .iface t' w => bif Nat.beq t t' then (match v, w with
      | .int k a, .int k' b => if (ts.any fun u => Nat.beq u t) = true ∧ k = k' then some (eqI a b) else none
      | _, _ => none) else some false
    | x, y => eqNil (.iface kn ts) x y)
  | k => eqNil k x y

def intArith (op : BinOp) (k : IntKind) (x y : Int) : Option AV :=
  match op with
  | .add => some (.int k (wrapF k (x + y)))
  | .sub => some (.int k (wrapF k (x - y)))
  | .mul => some (.int k (wrapF k (x * y)))
  | .quo => bif eqI y 0 then none else some (.int k (wrapF k (x.tdiv y)))
  | .rem => bif eqI y 0 then none else some (.int k (x.tmod y))
  | .and => some (.int k (andF k x y))
  | .or => some (.int k (orF k x y))
  | .xor => some (.int k (xorF k x y))
  | .andNot => some (.int k (andNotF k x y))
  | .eql => some (.bool (eqI x y)) | .neq => some (.bool (!eqI x y))
  | .lss => some (.bool (ltI x y)) | .leq => some (.bool (leI x y))
  | .gtr => some (.bool (ltI y x)) | .geq => some (.bool (leI y x))
  | _ => none

def floatR (k : FloatKind) : Option Nat → Option AV
  | some b => some (.float k b)
  | none => some (.nan k)

/-- an operation of which an operand is a NaN -/
def nanBin (op : BinOp) (k : FloatKind) : Option AV :=
  match op with
  | .add | .sub | .mul | .quo => some (.nan k)
  | .neq => some (.bool true)
  | .eql | .lss | .leq | .gtr | .geq => some (.bool false)
  | _ => none

def floatBin (op : BinOp) (k : FloatKind) (x y : Nat) : Option AV :=
  match op with
  | .add => floatR k (k.format.add x y) | .sub => floatR k (k.format.sub x y)
  | .mul => floatR k (k.format.mul x y) | .quo => floatR k (k.format.div x y)
  | .eql => some (.bool (k.format.order x y == some .eq)) | .neq => some (.bool (k.format.order x y != some .eq))
  | .lss => some (.bool (k.format.order x y == some .lt)) | .leq => some (.bool (k.format.order x y == some .lt || k.format.order x y == some .eq))
  | .gtr => some (.bool (k.format.order x y == some .gt)) | .geq => some (.bool (k.format.order x y == some .gt || k.format.order x y == some .eq))
  | _ => none

/-- the longest string that is made: far below what an int holds -/
def maxStr : Nat := 1099511627776

def strBin (op : BinOp) (x y : BStr) : Option AV :=
  match op with
  | .add => bif Nat.ble (x.n + y.n) maxStr then some (.str (x.app y)) else none
  | .eql => some (.bool (x.beq y)) | .neq => some (.bool !(x.beq y))
  | .lss => some (.bool (x.lt y)) | .leq => some (.bool (x.lt y || x.beq y))
  | .gtr => some (.bool !(x.lt y || x.beq y)) | .geq => some (.bool !(x.lt y))
  | _ => none

def kbits : IntKind → Nat
  | .i8 | .u8 => 8 | .i16 | .u16 => 16 | .i32 | .u32 => 32 | .i64 | .u64 => 64

def shiftOp (op : BinOp) (k : IntKind) (x y : Int) : Option AV :=
  match y with
  | .negSucc _ => none
  | .ofNat m =>
    match op with
    | .shl => some (.int k (shlF k x (min m (kbits k))))
    | .shr => some (.int k (shrF x (min m (kbits k))))
    | _ => none

def binV (op : BinOp) (x y : AV) : Option AV :=
  match x, y with
  | .int k a, .int k' b => (match op with
    | .shl => shiftOp .shl k a b
    | .shr => shiftOp .shr k a b
    | op => if k = k' then intArith op k a b else none)
  | .float k a, .float k' b => if k = k' then floatBin op k a b else none
  | .str a, .str b => strBin op a b
  | .nan k, .float k' _ => if k = k' then nanBin op k else none
  | .float k' _, .nan k => if k = k' then nanBin op k else none
  | .nan k, .nan k' => if k = k' then nanBin op k else none
  | _, _ => none

def unV (op : UnOp) (x : AV) : Option AV :=
  match op, x with
  | .neg, .int k n => some (.int k (wrapF k (0 - n)))
  | .xor, .int k n => some (.int k (xorF k (if k.signed then -1 else k.max) n))
  | .neg, .float k b => some (.float k (Go.Op.negFloat k b))
  | .neg, .nan k => some (.nan k)
  | .not, .bool b => some (.bool !b)
  | _, _ => none

def fillCells (cs : List AV) (off : Nat) (vs : List AV) : List AV := cs.take off ++ vs ++ cs.drop (off + vs.length)

def fillParts (ρ : XO → AV) : List (Nat × Nat × XO) → List AV → Option (List AV)
  | [], cs => some cs
  | (off, size, x) :: r, cs =>
    bif Nat.beq (cellsOf (ρ x)).length size && Nat.ble (off + size) cs.length && (cellsOf (ρ x)).all okCell then fillParts ρ r (fillCells cs off (cellsOf (ρ x))) else none

def opR (o : Option AV) (h : Heap) (why : Nat) : OpR := match o with | some v => .ok v h | none => .no why

/-- an index from 0 to n -/
def natTo (n : Nat) : AV → Option Nat
  | .int _ (.ofNat m) => bif Nat.ble m n then some m else none
  | _ => none
/-- an index below n -/
def natBelow (n : Nat) : AV → Option Nat
  | .int _ (.ofNat m) => bif Nat.blt m n then some m else none
  | _ => none

def natToO (n d : Nat) : Option AV → Option Nat
  | some v => natTo n v
  | none => some d

/-- bounds of a slice expression: low, high within len/cap -/
def bounds (cap len : Nat) (lo hi : Option AV) : Option (Nat × Nat) :=
  match natToO cap len hi with
  | none => none
  | some h => match natToO h 0 lo with
    | none => none
    | some l => some (l, h)

def readL (cs : List AV) (n : Nat) : Option (List AV) :=
  bif Nat.beq (cs.take n).length n then some (cs.take n) else none

def asLoad (agg : Bool) (o : Option (List AV)) : Option AV :=
  match o with
  | none => none
  | some cs => match agg with
    | true => some (.agg cs)
    | false => match cs with | [v] => some v | _ => none

def byteAVs : List Nat → List AV
  | [] => []
  | b :: r => .int .u8 (.ofNat b) :: byteAVs r

/-- all cells readable behind a slice value: its len*size cells -/
def slCells (size : Nat) (h : Heap) : AV → Option (List AV)
  | .nilSl => some []
  | .isl _ len cs => readL cs (len * size)
  | .sl b off len _ _ => match h.get b with
    | some (.cells n d cs _ _) => rd n d cs off (len * size)
    | _ => none
  | .str s => bif Nat.beq size 1 then some (byteAVs s.bytes) else none
  | _ => none

def bytesOf : List AV → BStr → Option BStr
  | [], s => some s
  | v :: r, s => match v with
    | .int .u8 (.ofNat n) => bif Nat.blt n 256 then bytesOf r (s.push n) else none
    | _ => none

def lenOf : AV → Option Nat
  | .nilSl => some 0
  | .isl _ len _ => some len
  | .sl _ _ len _ _ => some len
  | .str s => some s.n
  | _ => none

/-- a new block, its n cells as listed -/
def newCells (h : Heap) (n : Nat) (l : List AV) (elem : Nat) (op : Bool) (v : Nat → AV) : OpR :=
  .ok (v h.next) (h.new (.cells n .undef (wr .nil l 0) elem op))

def append (elem size lim : Nat) (h : Heap) (x y : AV) : OpR :=
  match slCells size h y with
  | none => .no 101
  | some new =>
    match lenOf y with
    | none => .no 102
    | some n =>
    match x with
    | .nilSl => bif Nat.beq n 0 then .ok .nilSl h else
      bif Nat.ble n lim then newCells h (n * size) new elem true fun b => .sl b 0 n size none else .no 109
    | .isl w len cs => bif Nat.beq n 0 then .ok (.isl w len cs) h else .no 103
    | .sl b off len es cap =>
      match h.get b with
      | some (.cells m d cs e op) =>
        match cap with
        | some c =>
          bif Nat.ble (len + n) c then
            (bif Nat.ble (off + (len + n) * size) m then
              .ok (.sl b off (len + n) es (some c)) (h.set b (.cells m d (wr cs new (off + len * size)) e op))
            else .no 104)
          else
            bif Nat.ble (len + n) lim then
            (match rd m d cs off (len * size) with
            | none => .no 105
            | some old => newCells h ((len + n) * size) (old ++ new) elem true fun b => .sl b 0 (len + n) size none)
            else .no 109
        | none =>
          bif Nat.beq n 0 then .ok (.sl b off len es none) h else
          bif Nat.beq es size && Nat.ble (off + (len + n) * size) m then
            .ok (.sl b off (len + n) es none) (h.set b (.cells m d (wr cs new (off + len * size)) e op))
          else
          bif op && Nat.beq off 0 && Nat.beq (len * size) m && Nat.beq es size && Nat.ble (len + n) lim && Nat.beq e elem then
            -- in place or moved: the old block is consumed
            .ok (.sl h.next 0 (len + n) size none) ((h.del b).new (.cells ((len + n) * size) d (wr cs new m) elem true))
          else .no 106
      | _ => .no 107
    | _ => .no 108

def decodeB (s : BStr) (i : Nat) : Nat × Nat :=
  let at' (k : Nat) : Nat := s.at_ (i + k)
  let cont (k : Nat) : Bool := Nat.blt (i + k) s.n && Nat.beq (at' k / 64) 2
  let b0 := at' 0
  bif Nat.blt b0 0x80 then (b0, 1)
  else bif Nat.beq (b0 / 32) 6 && cont 1 then
    let c := (b0 % 32) * 64 + at' 1 % 64
    bif Nat.ble 0x80 c then (c, 2) else (0xFFFD, 1)
  else bif Nat.beq (b0 / 16) 14 && cont 1 && cont 2 then
    let c := (b0 % 16) * 4096 + (at' 1 % 64) * 64 + at' 2 % 64
    bif Nat.ble 0x800 c && Go.Utf8.valid c then (c, 3) else (0xFFFD, 1)
  else bif Nat.beq (b0 / 8) 30 && cont 1 && cont 2 && cont 3 then
    let c := (b0 % 8) * 262144 + (at' 1 % 64) * 4096 + (at' 2 % 64) * 64 + at' 3 % 64
    bif Nat.ble 0x10000 c && Go.Utf8.valid c then (c, 4) else (0xFFFD, 1)
  else (0xFFFD, 1)

/-- the first place from i on (m places are left) where the byte is c -/
def findB (s : BStr) (c : Nat) : Nat → Nat → Int
  | 0, _ => -1
  | m + 1, i => bif Nat.beq (s.at_ i) c then .ofNat i else findB s c m (i + 1)

def findSub (a b : BStr) : Nat → Nat → Int
  | 0, _ => -1
  | m + 1, i => bif Nat.ble (i + b.n) a.n && (a.slice i (i + b.n)).beq b then .ofNat i else findSub a b m (i + 1)

def cntB (s : BStr) (c : Nat) : Nat → Nat → Nat → Nat
  | 0, _, r => r
  | m + 1, i, r => bif Nat.beq (s.at_ i) c then cntB s c m (i + 1) (r + 1) else cntB s c m (i + 1) r

/-- two keys: of strings (true), of integers -/
def eqk (s : Bool) (a b : AV) : Option Bool :=
  match s, a, b with
  | true, .str a, .str b => some (a.beq b)
  | false, .int k a, .int k' b => if k = k' then some (eqI a b) else none
  | _, _, _ => none

/-- a key for maps: its place, a new entry behind the others -/
def insKV (s : Bool) (key v : AV) : List AV → List AV → Option (List AV × List AV)
  | [], [] => some ([key], [v])
  | k' :: ks, v' :: vs => match eqk s key k' with
    | some true => some (key :: ks, v :: vs)
    | some false => (insKV s key v ks vs).map fun p => (k' :: p.1, v' :: p.2)
    | none => none
  | _, _ => none

def findKV (s : Bool) (key : AV) : List AV → List AV → Option (Option AV)
  | [], [] => some none
  | k' :: ks, v' :: vs => match eqk s key k' with
    | some true => some (some v')
    | some false => findKV s key ks vs
    | none => none
  | _, _ => none

section ops
variable (ρ : XO → AV) (h : Heap)

def o_bin (op : BinOp) (x y : XO) : OpR := opR (binV op (ρ x) (ρ y)) h 1
def o_eq (neg : Bool) (k : EqK) (x y : XO) : OpR := match eqTop k (ρ x) (ρ y) with
  | some b => .ok (.bool (bif neg then !b else b)) h
  | none => .no 2
def o_un (op : UnOp) (x : XO) : OpR := opR (unV op (ρ x)) h 3
def o_ext (x : XO) (i : Nat) : OpR := match ρ x with
  | .tup vs => opR vs[i]? h 4
  | _ => .no 4
def o_lenS (x : XO) : OpR := match ρ x with | .str s => .ok (.int .i64 (.ofNat s.n)) h | _ => .no 5
def o_lenSl (x : XO) : OpR := match ρ x with
  | .nilSl => .ok (.int .i64 (.ofNat 0)) h
  | .isl _ len _ => .ok (.int .i64 (.ofNat len)) h
  | .sl _ _ len _ _ => .ok (.int .i64 (.ofNat len)) h
  | _ => .no 6
def o_capSl (x : XO) : OpR := match ρ x with
  | .nilSl => .ok (.int .i64 (.ofNat 0)) h
  | .sl _ _ _ _ (some c) => .ok (.int .i64 (.ofNat c)) h
  | _ => .no 7
def o_nilchk (x : XO) : OpR := match ρ x with
  | .ref b off => .ok (.ref b off) h
  | .iptr w cs => .ok (.iptr w cs) h
  | .iface t v => .ok (.iface t v) h
  | .fn f a b => .ok (.fn f a b) h
  | _ => .no 8
def o_fa (off : Nat) (x : XO) : OpR := match ρ x with
  | .ref b o => .ok (.ref b (o + off)) h
  | .iptr w cs => .ok (.iptr w (cs.drop off)) h
  | _ => .no 9
def o_iaS (size : Nat) (x i : XO) : OpR := match ρ x with
  | .sl b off len _ _ => (match natBelow len (ρ i) with | some i => .ok (.ref b (off + i * size)) h | none => .no 10)
  | .isl w len cs => (match natBelow len (ρ i) with | some i => .ok (.iptr w (cs.drop (i * size))) h | none => .no 11)
  | _ => .no 12
def o_iaA (len size : Nat) (x i : XO) : OpR := match natBelow len (ρ i) with
  | none => .no 13
  | some i => (match ρ x with
    | .ref b off => .ok (.ref b (off + i * size)) h
    | .iptr w cs => .ok (.iptr w (cs.drop (i * size))) h
    | _ => .no 14)
def o_ixS (x i : XO) : OpR := match ρ x with
  | .str s => (match natBelow s.n (ρ i) with | some i => .ok (.int .u8 (.ofNat (s.at_ i))) h | none => .no 15)
  | _ => .no 16
def o_cvI (k : IntKind) (x : XO) : OpR := match ρ x with | .int _ n => .ok (.int k (wrapF k n)) h | _ => .no 17
def o_slS (x : XO) (lo hi : Option XO) : OpR := match ρ x with
  | .str s => (match bounds s.n s.n (lo.map ρ) (hi.map ρ) with
    | some (l, u) => .ok (.str (s.slice l u)) h
    | none => .no 18)
  | _ => .no 19

def ePA : PA → OpR
  | .bin op x y => o_bin ρ h op x y
  | .eq neg k x y => o_eq ρ h neg k x y
  | .un op x => o_un ρ h op x
  | .ext x i => o_ext ρ h x i
  | .lenS x => o_lenS ρ h x
  | .lenSl x => o_lenSl ρ h x
  | .capSl x => o_capSl ρ h x
  | .nilchk x => o_nilchk ρ h x
  | .fa off x => o_fa ρ h off x
  | .iaS size x i => o_iaS ρ h size x i
  | .iaA len size x i => o_iaA ρ h len size x i
  | .ixS x i => o_ixS ρ h x i
  | .cvI k x => o_cvI ρ h k x
  | .slS x lo hi => o_slS ρ h x lo hi
  | .sid x => (match ρ x with | .str s => .ok (.str s) h | _ => .no 19)

def o_build (zs : List AV) (ps : List (Nat × Nat × XO)) : OpR := opR ((fillParts ρ ps zs).map .agg) h 20
def o_cvF (k : FloatKind) (x : XO) : OpR := match ρ x with | .int _ n => .ok (.float k (k.nearest n)) h | _ => .no 21
def o_cvFI (k : IntKind) (x : XO) : OpR := match ρ x with
  | .float s b => (match (s.decode b).toInt .zero with
    | some n => if k.min ≤ n ∧ n ≤ k.max then .ok (.int k n) h else .no 22
    | none => .no 23)
  | _ => .no 24
def o_cvFF (k : FloatKind) (x : XO) : OpR := match ρ x with
  | .float s b => if s = k then .ok (.float k b) h else
    (match s.decode b with
    | .infinity t => .ok (.float k (k.encode (.infinity t))) h
    | .number t m e => if (k.decode (k.encode (.number t m e))).isInfinity then .no 25 else .ok (.float k (k.encode (.number t m e))) h
    | _ => .no 26)
  | _ => .no 27
def o_cvIS (x : XO) : OpR := match ρ x with | .int _ n => .ok (.str (BStr.ofBytes (Go.Utf8.encode n).data.toList)) h | _ => .no 28
def o_slSl (size : Nat) (x : XO) (lo hi : Option XO) : OpR := match ρ x with
  | .sl b off len es (some c) => (match bounds c len (lo.map ρ) (hi.map ρ) with
    | some (l, u) => .ok (.sl b (bif Nat.beq l c then off else off + l * size) (u - l) es (some (c - l))) h
    | none => .no 29)
  | .sl b off len es none => (match bounds len len (lo.map ρ) (hi.map ρ) with
    | some (l, u) => bif Nat.beq es size then (bif Nat.beq l len then .ok (.isl false 0 []) h else .ok (.sl b (off + l * size) (u - l) es none) h) else .no 29
    | none => .no 29)
  | .isl w len cs => (match bounds len len (lo.map ρ) (hi.map ρ) with
    | some (l, u) => bif Nat.beq l len then .ok (.isl w 0 []) h else .ok (.isl w (u - l) (cs.drop (l * size))) h
    | none => .no 30)
  | .nilSl => (match bounds 0 0 (lo.map ρ) (hi.map ρ) with | some _ => .ok .nilSl h | none => .no 31)
  | _ => .no 32
def o_slA (len size : Nat) (x : XO) (lo hi : Option XO) : OpR := match ρ x with
  | .ref b off => (match bounds len len (lo.map ρ) (hi.map ρ) with
    | some (l, u) => .ok (.sl b (bif Nat.beq l len then off else off + l * size) (u - l) size (some (len - l))) h
    | none => .no 33)
  | .iptr w cs => (match bounds len len (lo.map ρ) (hi.map ρ) with
    | some (l, u) => bif Nat.beq l len then .ok (.isl w 0 []) h else .ok (.isl w (u - l) (cs.drop (l * size))) h
    | none => .no 34)
  | _ => .no 35
def o_fld (agg : Bool) (off n : Nat) (x : XO) : OpR := match ρ x with
  | .agg cs => opR (asLoad agg (readL (cs.drop off) n)) h 36
  | _ => .no 37
def o_ixA (agg : Bool) (len n : Nat) (x i : XO) : OpR := match ρ x with
  | .agg cs => (match natBelow len (ρ i) with | some i => opR (asLoad agg (readL (cs.drop (i * n)) n)) h 38 | none => .no 39)
  | _ => .no 40
def o_ta (t : Nat) (zero : AV) (ok : Bool) (x : XO) : OpR := match ρ x with
  | .iface t' v => bif Nat.beq t' t then .ok (bif ok then .tup [v, .bool true] else v) h else bif ok then .ok (.tup [zero, .bool false]) h else .no 41
  | .nilIf => bif ok then .ok (.tup [zero, .bool false]) h else .no 42
  | _ => .no 43
def minL (k : IntKind) : List AV → Int → Option AV
  | [], a => some (.int k a)
  | v :: r, a => match v with | .int _ y => minL k r (bif ltI y a then y else a) | _ => none
def maxL (k : IntKind) : List AV → Int → Option AV
  | [], a => some (.int k a)
  | v :: r, a => match v with | .int _ y => maxL k r (bif ltI a y then y else a) | _ => none
def o_mn (args : List XO) : OpR := match args.map ρ with
  | v :: r => (match v with | .int k a => opR (minL k r a) h 44 | _ => .no 45)
  | _ => .no 45
def o_mx (args : List XO) : OpR := match args.map ρ with
  | v :: r => (match v with | .int k a => opR (maxL k r a) h 46 | _ => .no 47)
  | _ => .no 47
def o_usd (x : XO) : OpR := match ρ x with
  | .sl b off len _ _ => bif Nat.beq len 0 then .no 48 else .ok (.ref b off) h
  | .nilSl => .ok .nilPtr h
  | _ => .no 48
def o_fbits (k : FloatKind) (x : XO) : OpR := match ρ x with
  | .float .f64 b => (match k with | .f64 => .ok (.int .u64 (.ofNat b)) h | _ => .no 49)
  | .float .f32 b => (match k with | .f32 => .ok (.int .u32 (.ofNat b)) h | _ => .no 49)
  | _ => .no 49
def o_ffrom (k : FloatKind) (x : XO) : OpR := match ρ x with
  | .int .u64 n => (match k with | .f64 => .ok (.float .f64 n.toNat) h | _ => .no 50)
  | .int .u32 n => (match k with | .f32 => .ok (.float .f32 n.toNat) h | _ => .no 50)
  | _ => .no 50
def o_ixB (s c : XO) : OpR := match ρ s with
  | .str s => (match ρ c with
    | .int .u8 (.ofNat c) => bif Nat.blt c 256 then .ok (.int .i64 (findB s c s.n 0)) h else .no 51
    | _ => .no 51)
  | _ => .no 51
def o_cnt (s c : XO) : OpR := match ρ s with
  | .str s => (match ρ c with
    | .int .u8 (.ofNat c) => bif Nat.blt c 256 then .ok (.int .i64 (.ofNat (cntB s c s.n 0 0))) h else .no 53
    | _ => .no 53)
  | _ => .no 53
def o_trunc (x : XO) : OpR := match ρ x with
  | .float .f64 b => (match FloatKind.f64.decode b with
    | .nan .. => .no 54
    | .infinity s => .ok (.float .f64 (FloatKind.f64.encode ((Ieee.Datum.infinity s).integral .zero))) h
    | .number s m e => .ok (.float .f64 (FloatKind.f64.encode ((Ieee.Datum.number s m e).integral .zero))) h)
  | _ => .no 55

def ePB : PB → OpR
  | .build zs ps => o_build ρ h zs ps
  | .cvF k x => o_cvF ρ h k x
  | .cvFI k x => o_cvFI ρ h k x
  | .cvFF k x => o_cvFF ρ h k x
  | .cvIS x => o_cvIS ρ h x
  | .mkI t x => .ok (.iface t (ρ x)) h
  | .mkF f a b => .ok (.fn f (a.map ρ) (b.map ρ)) h
  | .slSl size x lo hi => o_slSl ρ h size x lo hi
  | .slA len size x lo hi => o_slA ρ h len size x lo hi
  | .fld agg off n x => o_fld ρ h agg off n x
  | .ixA agg len n x i => o_ixA ρ h agg len n x i
  | .ta t zero ok x => o_ta ρ h t zero ok x
  | .mn args => o_mn ρ h args
  | .mx args => o_mx ρ h args
  | .usd x => o_usd ρ h x
  | .fbits k x => o_fbits ρ h k x
  | .ffrom k x => o_ffrom ρ h k x
  | .ixB s c => o_ixB ρ h s c
  | .ixSt _ _ => .no 52
  | .cnt s c => o_cnt ρ h s c
  | .trunc x => o_trunc ρ h x

def o_ld (agg : Bool) (n : Nat) (p : XO) : OpR := match ρ p with
  | .ref b off => (match h.get b with
    | some (.cells m d cs _ _) => opR (asLoad agg (rd m d cs off n)) h 60
    | _ => .no 61)
  | .iptr _ cs => opR (asLoad agg (readL cs n)) h 62
  | _ => .no 63
def o_st (n : Nat) (p x : XO) : OpR := match ρ p with
  | .ref b off => (match h.get b with
    | some (.cells m d cs e op) =>
      bif Nat.beq (cellsOf (ρ x)).length n && Nat.ble (off + n) m && (cellsOf (ρ x)).all okCell then
        .ok .undef (h.set b (.cells m d (wr cs (cellsOf (ρ x)) off) e op))
      else .no 64
    | _ => .no 65)
  | _ => .no 66
def setL : List (Nat × AV) → T AV → T AV
  | [], cs => cs
  | p :: r, cs => setL r (cs.set p.1 p.2)
def o_new (elem : Nat) (zs : Zs) : OpR :=
  .ok (.ref h.next 0) (h.new (.cells zs.n zs.d (setL zs.l .nil) elem false))
def o_box (elem n : Nat) (x : XO) : OpR :=
  bif Nat.beq (cellsOf (ρ x)).length n && (cellsOf (ρ x)).all okCell then newCells h n (cellsOf (ρ x)) elem false fun b => .ref b 0 else .no 67
def o_bsl (elem len : Nat) (zs : List AV) (ps : List (Nat × Nat × XO)) : OpR := match fillParts ρ ps zs with
  | some cs => newCells h zs.length cs elem false fun b => .sl b 0 len 0 (some len)
  | none => .no 68

def eHA : HA → OpR
  | .ld agg n p => o_ld ρ h agg n p
  | .st n p x => o_st ρ h n p x
  | .new elem zs => o_new h elem zs
  | .box elem n x => o_box ρ h elem n x
  | .bsl elem len zs ps => o_bsl ρ h elem len zs ps
  | .app elem size lim x y => append elem size lim h (ρ x) (ρ y)

def o_cvSB (elem : Nat) (x : XO) : OpR := match ρ x with
  | .str s => newCells h s.n (byteAVs s.bytes) elem true fun b => .sl b 0 s.n 1 none
  | _ => .no 70
def o_cvBS (x : XO) : OpR := match ρ x with
  | .str _ => .no 72
  | v => (match slCells 1 h v with
    | some cs => opR ((bytesOf cs .empty).map .str) h 71
    | none => .no 72)
def o_cvP (t size : Nat) (x : XO) : OpR := match ρ x with
  | .ref b 0 => (match h.get b with
    | some (.cells n _ _ e _) => bif Nat.beq e t && Nat.ble size n then .ok (.ref b 0) h else .no 73
    | _ => .no 74)
  | .nilPtr => .ok .nilPtr h
  | _ => .no 75
def o_ins (s : Bool) (m k v : XO) : OpR := match ρ m with
  | .mref b => (match h.get b with
    | some (.amap ks vs) => (match insKV s (ρ k) (ρ v) ks vs with
      | some p => .ok .undef (h.set b (.amap p.1 p.2))
      | none => .no 76)
    | _ => .no 77)
  | _ => .no 78
def mapOf : AV → Option (List AV × List AV)
  | .nilMap => some ([], [])
  | .imap _ ks vs => some (ks, vs)
  | .mref b => match h.get b with | some (.amap ks vs) => some (ks, vs) | _ => none
  | _ => none
def o_lkp (s : Bool) (zero : AV) (ok : Bool) (x i : XO) : OpR := match mapOf h (ρ x) with
  | none => .no 79
  | some p => (match findKV s (ρ i) p.1 p.2 with
    | some (some v) => .ok (bif ok then .tup [v, .bool true] else v) h
    | some none => .ok (bif ok then .tup [zero, .bool false] else zero) h
    | none => .no 80)
def repL (zs : List AV) : Nat → List AV
  | 0 => []
  | n + 1 => zs ++ repL zs n
def o_mksl (elem size lim : Nat) (zs : List AV) (l c : XO) : OpR := match natTo lim (ρ c) with
  | none => .no 81
  | some c => (match natTo c (ρ l) with
    | none => .no 82
    | some l => (match zs with
      | [z] => bif Nat.beq size 1 then .ok (.sl h.next 0 l 1 (some c)) (h.new (.cells c z .nil elem false)) else .no 83
      | zs => newCells h (c * size) (repL zs c) elem false fun b => .sl b 0 l size (some c)))
def o_rngS (x : XO) : OpR := match ρ x with
  | .str s => .ok (.ref h.next 0) (h.new (.siter s 0))
  | _ => .no 83
def o_nxtS (it : XO) : OpR := match ρ it with
  | .ref b 0 => (match h.get b with
    | some (.siter s pos) =>
      bif Nat.blt pos s.n then
        .ok (.tup [.bool true, .int .i64 (.ofNat pos), .int .i32 (.ofNat (decodeB s pos).1)]) (h.set b (.siter s (pos + (decodeB s pos).2)))
      else .ok (.tup [.bool false]) h
    | _ => .no 84)
  | _ => .no 85
def o_lenM (x : XO) : OpR := match mapOf h (ρ x) with
  | some p => .ok (.int .i64 (.ofNat p.1.length)) h
  | none => .no 86
def o_cpy (size : Nat) (x y : XO) : OpR := match ρ x with
  | .sl b off len _ _ => (match lenOf (ρ y), slCells size h (ρ y) with
    | some m, some new => (match h.get b with
      | some (.cells n d cs e op) =>
        bif Nat.ble (off + min m len * size) n then
          .ok (.int .i64 (.ofNat (min m len))) (h.set b (.cells n d (wr cs (new.take (min m len * size)) off) e op))
        else .no 87
      | _ => .no 88)
    | _, _ => .no 89)
  | _ => .no 91
def o_us (elem : Nat) (p n : XO) : OpR := match ρ n with
  | .int .i64 (.ofNat n) => (match ρ p with
    | .nilPtr => bif Nat.beq n 0 then .ok (.str .empty) h else .no 95
    | .ref b off => bif Nat.beq n 0 then .ok (.str .empty) h else
      bif Nat.ble n maxStr && Nat.beq off 0 then
      (match h.get b with
      | some (.cells m d cs e _) => bif Nat.beq e elem then (match rd m d cs 0 n with
        | some l => (match bytesOf l .empty with
          | some s => .ok (.str s) (h.del b)
          | none => .no 92)
        | none => .no 93) else .no 94
      | _ => .no 94) else .no 94
    | _ => .no 95)
  | _ => .no 96
def o_mkNZ (elem : Nat) (x : XO) : OpR := match ρ x with
  | .int .i64 (.ofNat n) => bif Nat.ble n maxStr then .ok (.sl h.next 0 n 1 none) (h.new (.cells n .dead .nil elem true)) else .no 97
  | _ => .no 97

def eHB : HB → OpR
  | .cvSB elem x => o_cvSB ρ h elem x
  | .cvBS x => o_cvBS ρ h x
  | .cvP t size x => o_cvP ρ h t size x
  | .mkMap => .ok (.mref h.next) (h.new (.amap [] []))
  | .ins s m k v => o_ins ρ h s m k v
  | .lkp s zero ok x i => o_lkp ρ h s zero ok x i
  | .mksl elem size lim zs l c => o_mksl ρ h elem size lim zs l c
  | .rngS x => o_rngS ρ h x
  | .nxtS it => o_nxtS ρ h it
  | .lenM x => o_lenM ρ h x
  | .cpy size x y => o_cpy ρ h size x y
  | .us elem p n => o_us ρ h elem p n
  | .mkNZ elem x => o_mkNZ ρ h elem x
end ops

abbrev CallT := Nat → List AV → Heap → OpR

def xop (call : CallT) (ρ : XO → AV) (h : Heap) : XOp → OpR
  | .mv x => .ok (ρ x) h
  | .p o => ePA ρ h o
  | .h o => eHA ρ h o
  | .call f args => call f (args.map ρ) h
  | .pick c a b => match ρ c with | .bool true => .ok (ρ a) h | .bool false => .ok (ρ b) h | _ => .no 110
  | .q o => ePB ρ h o
  | .g o => eHB ρ h o
  | .callv f args => match ρ f with
    | .fn f first cap => call f (first ++ args.map ρ ++ cap) h
    | _ => .no 111
  | .panic x => (match ρ x with | .iface t v => .panic (.iface t v) h | _ => .no 112)
  | .bad => .no 112

def wanted (env : T AV) : Option (Nat × Bool) → Option Bool
  | none => some true
  | some p => match env.at p.1 with
    | .bool x => some (x == p.2)
    | .undef => some false
    | _ => none

def put (env : T AV) (d : Option Nat) (v : AV) : T AV := match d with
  | some d => env.set d v
  | none => env

def xops (call : CallT) (C : Ctx) : List XOper → T AV → Heap → Out
  | [], env, h => .ok .nrm env h
  | o :: r, env, h =>
    match wanted env o.grd with
    | some true => match xop call (eval C env) h o.op with
      | .ok v h' => xops call C r (put env o.dst v) h'
      | .panic v h' => .ok (.panic v) env h'
      | .no w => .no w
    | some false => xops call C r (put env o.dst .undef) h
    | none => .no 113

def findLabel : XCode → Nat → Option XCode
  | .seq a b, l => match findLabel a l with | some r => some (.seq r b) | none => findLabel b l
  | .label l', l => if l' == l then some .skip else none
  | _, _ => none

def initEnv : List AV → Nat → T AV → T AV
  | [], _, e => e
  | v :: r, i, e => initEnv r (i + 1) (e.set i v)

def results (env : T AV) (h : Heap) : List XRes → Option (List AV)
  | [] => some []
  | .tmp t :: r => (results env h r).map (env.at t :: ·)
  | .cell t agg n :: r => match env.at t with
    | .ref b off => match h.get b with
      | some (.cells m d cs _ _) => (match asLoad agg (rd m d cs off n) with
        | some v => (results env h r).map (v :: ·)
        | none => none)
      | _ => none
    | _ => none

def one : List AV → AV
  | [v] => v
  | vs => .tup vs

def depth : Nat := 1000

def callB (ih : XCode → T AV → Heap → Out) (C : Ctx) (f : Nat) (args : List AV) (h : Heap) : OpR :=
  match C.fns f with
  | none => .no (1000000 + f)
  | some fn =>
    match fn.pure with
    | true => (match mapO (conv true h depth) args with
      | none => .no (2000000 + f)
      | some args =>
        (match ih fn.body (initEnv args 0 .nil) .empty with
        | .ok e env' h' => (match e with
          | .ret | .nrm => (match results env' h' fn.results with
            | none => .no (3000000 + f)
            | some vs => (match mapO (conv false h' depth) vs with
              | none => .no (4000000 + f)
              | some vs => .ok (one vs) h))
          | .panic v => (match conv false h' depth v with | some v => .panic v h | none => .no (5000000 + f))
          | _ => .no (6000000 + f))
        | .no w => .no w))
    | false => (match ih fn.body (initEnv args 0 .nil) h with
      | .ok e env' h' => (match e with
        | .ret | .nrm => (match results env' h' fn.results with
          | none => .no (7000000 + f)
          | some vs => .ok (one vs) h')
        | .panic v => .panic v h'
        | _ => .no (8000000 + f))
      | .no w => .no w)

def callFn (ih : XCode → T AV → Heap → Out) (C : Ctx) (f : Nat) (args : List AV) (h : Heap) : OpR :=
  match C.sum f with
  | some g => g args h
  | none => callB ih C f args h

/-! A region that draws its order: the operations are run in the order of the text; each one that only reads is asked again in every memory in which another order may run it. -/

/-- equal for sure -/
def avEq : Nat → AV → AV → Bool
  | 0, _, _ => false
  | n + 1, x, y => match x, y with
    | .undef, .undef => true
    | .bool a, .bool b => a == b
    | .int k a, .int k' b => decide (k = k') && eqI a b
    | .float k a, .float k' b => decide (k = k') && Nat.beq a b
    | .nan k, .nan k' => decide (k = k')
    | .str a, .str b => a.beq b
    | .nilPtr, .nilPtr | .nilSl, .nilSl | .nilMap, .nilMap | .nilFn, .nilFn | .nilIf, .nilIf => true
    | .agg a, .agg b => Nat.beq a.length b.length && (a.zip b).all fun p => avEq n p.1 p.2
    | .tup a, .tup b => Nat.beq a.length b.length && (a.zip b).all fun p => avEq n p.1 p.2
    | .ref a b, .ref c d => Nat.beq a c && Nat.beq b d
    | .sl a b c d e, .sl a' b' c' d' e' => Nat.beq a a' && Nat.beq b b' && Nat.beq c c' && Nat.beq d d' && decide (e = e')
    | .iptr w a, .iptr w' b => (w == w') && Nat.beq a.length b.length && (a.zip b).all fun p => avEq n p.1 p.2
    | .isl w l a, .isl w' l' b => (w == w') && Nat.beq l l' && Nat.beq a.length b.length && (a.zip b).all fun p => avEq n p.1 p.2
    | .iface t a, .iface t' b => Nat.beq t t' && avEq n a b
    | .fn f [] [], .fn g [] [] => Nat.beq f g
    | .mref a, .mref b => Nat.beq a b
    | _, _ => false

structure Rec where
  op : XOp
  env : T AV
  lo : Nat
  hi : Nat
  v : AV
  deriving Inhabited

/-- the run in the order of the text: the memories, the last one first; what must be asked again -/
def runD (call : CallT) (C : Ctx) : List (XOper × DI) → T AV → Heap → List Heap → List Rec → Option (T AV × List Heap × List Rec)
  | [], env, h, hs, rs => some (env, h :: hs, rs)
  | p :: r, env, h, hs, rs =>
    match wanted env p.1.grd with
    | some true => match xop call (eval C env) h p.1.op with
      | .ok v h' => (match p.2 with
        | .wr => runD call C r (put env p.1.dst v) h' (h :: hs) rs
        | .rd lo hi => runD call C r (put env p.1.dst v) h hs (⟨p.1.op, env, lo, hi, v⟩ :: rs)
        | .free => runD call C r (put env p.1.dst v) h hs rs)
      | _ => none
    | some false => (match p.2 with
        | .wr => runD call C r (put env p.1.dst .undef) h (h :: hs) rs
        | _ => runD call C r (put env p.1.dst .undef) h hs rs)
    | none => none

/-- the memories from lo to hi, of a list that begins with the first -/
def span (hs : List Heap) (lo hi : Nat) : List Heap := (hs.drop lo).take (hi + 1 - lo)

def again (call : CallT) (C : Ctx) (hs : List Heap) (r : Rec) : Bool :=
  bif Nat.beq r.lo r.hi then true else
  (span hs r.lo r.hi).all fun h => match xop call (eval C r.env) h r.op with
    | .ok v _ => avEq depth r.v v
    | _ => false

def xdraw (call : CallT) (C : Ctx) (ops : List (XOper × DI)) (env : T AV) (h : Heap) : Out :=
  match runD call C ops env h [] [] with
  | some (env', hs, rs) => bif rs.all (again call C hs.reverse) then (match hs with | h' :: _ => .ok .nrm env' h' | [] => .no 122) else .no 121
  | none => .no 120

def step (C : Ctx) (ih : XCode → T AV → Heap → Out) (c : XCode) (env : T AV) (h : Heap) : Out :=
  match c with
  | .skip => .ok .nrm env h
  | .reg ops => xops (callFn ih C) C ops env h
  | .draw ops => xdraw (callFn ih C) C ops env h
  | .seq a b => (match ih a env h with
    | .ok e env h => (match e with | .nrm => ih b env h | e => .ok e env h)
    | .no w => .no w)
  | .cond x a b => (match eval C env x with
    | .bool true => ih a env h
    | .bool false => ih b env h
    | _ => .no 130)
  | .block id c => (match ih c env h with
    | .ok e env h => (match e with | .exit i => bif Nat.beq i id then .ok .nrm env h else .ok (.exit i) env h | e => .ok e env h)
    | .no w => .no w)
  | .loop c => (match ih c env h with
    | .ok e env h => (match e with | .nrm => ih (.loop c) env h | e => .ok e env h)
    | .no w => .no w)
  | .exit id => .ok (.exit id) env h
  | .label _ => .ok .nrm env h
  | .goto l => .ok (.goto l) env h
  | .ret => .ok .ret env h
  | .scope c => ih (.scopeAt c c) env h
  | .scopeAt c cur => (match ih cur env h with
    | .ok e env h => (match e with
      | .goto l => (match findLabel c l with
        | some r => ih (.scopeAt c r) env h
        | none => .ok (.goto l) env h)
      | e => .ok e env h)
    | .no w => .no w)
  | .bad => .no 131

def ex (C : Ctx) : Nat → XCode → T AV → Heap → Out
  | 0, _, _, _ => .no 132
  | n + 1, c, env, h => step C (ex C n) c env h

end Go.Proofs.YtmadknpaljaecaaGreatDoor.Ev
