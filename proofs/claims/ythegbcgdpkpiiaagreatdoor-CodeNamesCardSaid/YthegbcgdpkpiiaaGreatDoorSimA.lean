/- The evaluator: its words, its compiler, what its state has to do with the machine's. Conditions: none. -/
import GoSem.Step
import Derived.Laws.World
import Derived.Laws.Rows
set_option linter.all false
/- The evaluator's words: its values, its heap, its code, what one operation does, what a code does. Conditions: none (definitions alone). -/
namespace Go.Sim

/-- What is known of a slice's room: nothing; there is none; the slice is nil; it is empty and not nil; the room is token t's, and the slice ends at element e of that row. -/
inductive Gr where
  | none | exact | nil | nn | tok (t e : Nat)

/-- The evaluator's values. 'sl': a slice that is never written again: how many elements, their cells, its room. 'ms': a slice over a block (cell o on, n elements, room for c, e cells each). 'pimm': the address of cells that are never written again. 'pby': the address of the bytes of a slice whose row is of bytes. -/
inductive V where
  | bool (b : Bool)
  | int (k : IntKind) (n : Int)
  | str (s : List Nat)
  | nilp
  | pblk (b o : Nat)
  | pimm (cs : List V)
  | pby (ty : Nat) (cs : List V)
  | sl (n : Nat) (cs : List V) (g : Gr)
  | ms (b o n c e : Nat)
  | fn (f : Nat) (caps : List V)
  | yld (l : Nat)
  | nilfn
  | ifc (t : Nat) (v : V)
  | nilifc
  | agg (cs : List V)
  | tup (vs : List V)
  | junk
  deriving Inhabited

/-- The temporaries: a tree; place 0 at its root, the odd ones to the left. -/
inductive Tm where
  | e | n (l : Tm) (v : V) (r : Tm)

def Tm.get : Tm → Nat → V
  | .e, _ => .junk
  | .n l v r, i => match i with
    | 0 => v
    | i + 1 => match Nat.mod i 2 with
      | 0 => l.get (Nat.div i 2)
      | _ => r.get (Nat.div i 2)
def Tm.put : Tm → Nat → V → Tm
  | .e, _, _ => .e
  | .n l v r, i, x => match i with
    | 0 => .n l x r
    | i + 1 => match Nat.mod i 2 with
      | 0 => .n (l.put (Nat.div i 2) x) v r
      | _ => .n l v (r.put (Nat.div i 2) x)
/-- A tree of n places (of at most d levels). -/
def Tm.mk (v : V) : Nat → Nat → Tm
  | 0, _ => .e
  | _ + 1, 0 => .e
  | d + 1, k + 1 => .n (Tm.mk v d (Nat.div (k + 1) 2)) v (Tm.mk v d (Nat.div k 2))
/-- Values from a place on. -/
def Tm.puts (t : Tm) : Nat → List V → Tm
  | _, [] => t
  | i, v :: vs => (t.put i v).puts (i + 1) vs

/-- An operand. -/
inductive O where
  | t (i : Nat)
  | v (x : V)

/-- What a slice expression cuts. -/
inductive Sk where
  | str | sl (esz : Nat) | arr (n esz : Nat)

/-- What '==' compares. -/
inductive Kd where
  | bool | ptr | ifc | sl | none

/-- The operations, their operands apart. -/
inductive A where
  | mov
  | pick
  | new (ty : Nat) (z : List V)
  | box (ty sz : Nat)
  | build (z : List V) (ps : List (Nat × Nat))
  | buildSl (n : Nat) (z : List V) (ps : List (Nat × Nat))
  | load (agg : Bool) (sz : Nat)
  | store (sz : Nat)
  | nilc
  | bin (op : BinOp) (kd : Kd)
  | aggEq (neg : Bool) (offs : List Nat)
  | un (op : UnOp)
  | toInt (k : IntKind)
  | same
  | s2b
  | b2s
  | toUns
  | fromUns (ty sz : Nat)
  | mkI (t : Nat)
  | mkF (f : Nat)
  | mkS (ty esz bytes : Nat) (z : List V)
  | slice (k : Sk) (lo hi mx : Bool)
  | off (k : Nat)
  | fld (agg : Bool) (off sz : Nat)
  | ixA (arr : Option Nat) (esz : Nat)
  | ixS
  | ixG (n esz : Nat) (agg : Bool)
  | ext (i : Nat)
  | asrt (t : Nat) (z : V) (ok : Bool)
  | call
  | len (str : Bool)
  | cap
  | append (ty esz bytes : Nat)
  | copy (esz : Nat)
  | max
  | min
  | strData (ty : Nat)
  | sliData
  | recov
  | dfr
  | pan
  | mat (b ty : Nat) (z : List V)      -- a new variable of a region that draws: laid ahead of it

structure Op1 where
  dst : Option Nat
  op : A
  args : List O
  grd : Option (Nat × Bool)
  bef : List Nat       -- the operations of the region that always come ahead of it (draws alone)

inductive C where
  | skip
  | reg (ops : List Op1)
  | draw (ops : List Op1)
  | seq (a b : C)
  | cond (c : O) (a b : C)
  | block (id : Nat) (c : C)
  | loop (c : C)
  | rangeF (f : O) (params : List Nat) (assign body : C)
  | exit (id : Nat)
  | ret
  | bad

/-- How a code is left. -/
inductive X where
  | norm | exit (id : Nat) | ret | pan (v : V)

structure Lp where
  ready : Bool
  done : Bool
  pend : Option X
  tm : Tm
  params : List Nat
  assign : C
  body : C

structure H where
  blk : List (Nat × List V)
  tok : List (Nat × Nat)
  lps : List Lp

inductive D where
  | coll
  | fn (f : V) (args : List V)

/-- What recover finds: 'off': this is no deferred call; 'dfr': a deferred call of a frame that returns; 'on', 'done': of one that panics. -/
inductive Rc where
  | off | dfr | on (v : V) | done

inductive Ret where
  | ret (v : V) | pan (v : V)

abbrev Es := List (Nat × Nat)

structure Out where
  r : Ret
  h : H
  es : Es := []
  et : Es := []
  rc : Rc := .off

structure St where
  tm : Tm
  h : H
  df : List D := []
  es : Es := []
  et : Es := []
  rc : Rc := .off
  rnd : Bool := false

/-- A function: code, or one of the model's own. -/
inductive Xfn where
  | same | indexByte | count
inductive RV where
  | t (i : Nat) | cell (agg : Bool) (sz : Nat) (t : Nat)
inductive Fun1 where
  | code (ntm : Nat) (body : C) (res : List RV) (keep : Bool)
  | ext (x : Xfn)

structure Env where
  fn : Nat → Option Fun1
  orc : Nat → List V → Option V
  split : Nat → Option Nat    -- the functions that look whether a slice is nil: at which argument
  wr : Nat → Bool        -- the functions that a region which draws its order may call although they write

abbrev Caller := V → List V → Rc → H → Option Out

-- ---------------------------------------------------------------- references
mutual
def V.brefs : V → List Nat
  | .pblk b _ => [b]
  | .ms b _ _ _ _ => [b]
  | .pimm cs | .pby _ cs | .agg cs | .tup cs => V.brefsL cs
  | .sl _ cs _ => V.brefsL cs
  | .fn _ cs => V.brefsL cs
  | .ifc _ v => v.brefs
  | _ => []
def V.brefsL : List V → List Nat
  | [] => []
  | v :: vs => v.brefs ++ V.brefsL vs
end
mutual
def V.trefs : V → List Nat
  | .sl _ cs g => (match g with | .tok t _ => [t] | _ => []) ++ V.trefsL cs
  | .pimm cs | .pby _ cs | .agg cs | .tup cs => V.trefsL cs
  | .fn _ cs => V.trefsL cs
  | .ifc _ v => v.trefs
  | _ => []
def V.trefsL : List V → List Nat
  | [] => []
  | v :: vs => v.trefs ++ V.trefsL vs
end
mutual
def V.yrefs : V → List Nat
  | .yld l => [l]
  | .pimm cs | .pby _ cs | .agg cs | .tup cs => V.yrefsL cs
  | .sl _ cs _ => V.yrefsL cs
  | .fn _ cs => V.yrefsL cs
  | .ifc _ v => v.yrefs
  | _ => []
def V.yrefsL : List V → List Nat
  | [] => []
  | v :: vs => v.yrefs ++ V.yrefsL vs
end

/-- A result as its caller gets it: rooms forgotten, slices over the call's own blocks read off. -/
def V.norm (h : H) (n0 : Nat) : Nat → V → V
  | 0, v => v
  | k + 1, v => match v with
    | .sl n cs _ => .sl n cs .none
    | .ms b o n c e => if b < n0 then .ms b o n c e else .sl n (((h.blk.getD b (0, [])).2.drop o |>.take (n * e)).map (V.norm h n0 k)) .none
    | .agg cs => .agg (cs.map (V.norm h n0 k))
    | .tup cs => .tup (cs.map (V.norm h n0 k))
    | .ifc t v => .ifc t (V.norm h n0 k v)
    | v => v

-- ---------------------------------------------------------------- equality of values (for what a region that draws reads twice)
mutual
def V.beq : V → V → Bool
  | .bool a, .bool b => a == b
  | .int k a, .int j b => k == j && a == b
  | .str a, .str b => a == b
  | .nilp, .nilp => true
  | .pblk a b, .pblk c d => a == c && b == d
  | .pimm a, .pimm b => V.beqL a b
  | .pby t a, .pby u b => t == u && V.beqL a b
  | .sl n a g, .sl m b g' => n == m && V.beqL a b && (match g, g' with | .none, .none => true | .exact, .exact => true | .nil, .nil => true | .nn, .nn => true | .tok t e, .tok t' e' => t == t' && e == e' | _, _ => false)
  | .ms a b c d e, .ms a' b' c' d' e' => a == a' && b == b' && c == c' && d == d' && e == e'
  | .fn f a, .fn g b => f == g && V.beqL a b
  | .yld a, .yld b => a == b
  | .nilfn, .nilfn => true
  | .ifc t a, .ifc u b => t == u && V.beq a b
  | .nilifc, .nilifc => true
  | .agg a, .agg b => V.beqL a b
  | .tup a, .tup b => V.beqL a b
  | .junk, .junk => true
  | _, _ => false
def V.beqL : List V → List V → Bool
  | [], [] => true
  | a :: as, b :: bs => V.beq a b && V.beqL as bs
  | _, _ => false
end

-- ---------------------------------------------------------------- one operation
def strLess : List Nat → List Nat → Bool
  | _, [] => false
  | [], _ :: _ => true
  | a :: x, b :: y => decide (a < b) || (a == b && strLess x y)

/- Whole numbers, reckoned the short way (what these are is proved in SimInt). -/
def modK : IntKind → Nat
  | .i8 | .u8 => 256
  | .i16 | .u16 => 65536
  | .i32 | .u32 => 4294967296
  | .i64 | .u64 => 18446744073709551616
def halfK : IntKind → Nat
  | .i8 => 128 | .u8 => 256
  | .i16 => 32768 | .u16 => 65536
  | .i32 => 2147483648 | .u32 => 4294967296
  | .i64 => 9223372036854775808 | .u64 => 18446744073709551616
/-- A number's bits. -/
def toU (k : IntKind) (n : Int) : Nat := match n with
  | .ofNat m => m % modK k
  | .negSucc m => modK k - 1 - m % modK k
/-- The number of some bits. -/
def ofU (k : IntKind) (u : Nat) : Int := if u < halfK k then .ofNat u else .negSucc (modK k - 1 - u)
def wr (k : IntKind) (n : Int) : Int := match n with
  | .ofNat m => if m < halfK k then .ofNat m else ofU k (m % modK k)
  | .negSucc m => ofU k (modK k - 1 - m % modK k)
def ltI (a b : Int) : Bool := match a, b with
  | .ofNat m, .ofNat n => Nat.blt m n
  | .ofNat _, .negSucc _ => false
  | .negSucc _, .ofNat _ => true
  | .negSucc m, .negSucc n => Nat.blt n m
def eqI (a b : Int) : Bool := match a, b with
  | .ofNat m, .ofNat n => Nat.beq m n
  | .negSucc m, .negSucc n => Nat.beq m n
  | _, _ => false

/- For the kernel's sake: what is known is reckoned out before it is handed on. -/
def forceN {α : Type} (m : Nat) (k : Nat → α) : α := match m with
  | 0 => k 0
  | m + 1 => k (m + 1)
def forceI {α : Type} (n : Int) (k : Int → α) : α := match n with
  | .ofNat m => forceN m fun m => k (.ofNat m)
  | .negSucc m => forceN m fun m => k (.negSucc m)
def forceT {α : Type} : Tm → (Tm → α) → α
  | .e, k => k .e
  | .n l v r, k => forceT l fun l => forceT r fun r => k (.n l v r)

theorem forceN_eq {α : Type} (m : Nat) (k : Nat → α) : forceN m k = k m := by cases m <;> rfl
theorem forceI_eq {α : Type} (n : Int) (k : Int → α) : forceI n k = k n := by cases n <;> simp [forceI, forceN_eq]
theorem forceT_eq {α : Type} (t : Tm) (k : Tm → α) : forceT t k = k t := by
  induction t generalizing k with
  | e => rfl
  | n l v r hl hr => simp [forceT, hl, hr]

/-- A whole number as a value. -/
def intV (k : IntKind) (n : Int) : Option V := forceI n fun n => some (.int k n)

def cmpI (op : BinOp) (a b : Int) : Option V :=
  match op with
  | .eql => some (.bool (eqI a b))
  | .neq => some (.bool (!eqI a b))
  | .lss => some (.bool (ltI a b))
  | .leq => some (.bool (!ltI b a))
  | .gtr => some (.bool (ltI b a))
  | .geq => some (.bool (!ltI a b))
  | _ => none

def binI (op : BinOp) (k : IntKind) (a b : Int) : Option V :=
  match op with
  | .add => intV k (wr k (a + b))
  | .sub => intV k (wr k (a - b))
  | .mul => intV k (wr k (a * b))
  | .quo => if eqI b 0 then none else intV k (wr k (a.tdiv b))
  | .rem => if eqI b 0 then none else intV k (a.tmod b)
  | .and => intV k (ofU k (toU k a &&& toU k b))
  | .or => intV k (ofU k (toU k a ||| toU k b))
  | .xor => intV k (ofU k (toU k a ^^^ toU k b))
  | .andNot => intV k (ofU k (toU k a &&& (modK k - 1 - toU k b)))
  | _ => cmpI op a b

def bitsK : IntKind → Nat
  | .i8 | .u8 => 8
  | .i16 | .u16 => 16
  | .i32 | .u32 => 32
  | .i64 | .u64 => 64
def shI (op : BinOp) (k : IntKind) (a b : Int) : Option V :=
  match b with
  | .negSucc _ => none
  | .ofNat n => match op with
    | .shl => intV k (wr k (a * .ofNat (Nat.pow 2 (min n (bitsK k)))))
    | .shr => intV k (a.fdiv (.ofNat (Nat.pow 2 (min n (bitsK k)))))
    | _ => none

def roomMost : Nat := 2 ^ 44

def binS (op : BinOp) (a b : List Nat) : Option V :=
  match op with
  | .add => if a.length + b.length < roomMost then some (.str (a ++ b)) else none
  | .eql => some (.bool (a == b))
  | .neq => some (.bool (!(a == b)))
  | .lss => some (.bool (strLess a b))
  | .leq => some (.bool (strLess a b || a == b))
  | .gtr => some (.bool (!(strLess a b || a == b)))
  | .geq => some (.bool (!strLess a b))
  | _ => none

/-- '==' of two values that are told apart at sight. -/
def eqV : Kd → V → V → Option Bool
  | .bool, .bool a, .bool b => some (a == b)
  | .ptr, .nilp, .nilp => some true
  | .ptr, .nilp, .pblk _ _ => some false
  | .ptr, .pblk _ _, .nilp => some false
  | .ptr, .pblk b o, .pblk c p => some (b == c && o == p)
  | .ifc, .nilifc, .ifc _ _ => some false
  | .ifc, .ifc _ _, .nilifc => some false
  | .sl, .sl 0 _ .nil, .sl 0 _ .nil => some true
  | .sl, .sl 0 _ .nn, .sl 0 _ .nil => some false
  | .sl, .sl (_ + 1) (_ :: _) _, .sl 0 _ .nil => some false
  | _, _, _ => none

def binV (op : BinOp) (kd : Kd) (x y : V) : Option V :=
  match x, y with
  | .int k a, .int j b =>
    match op with
    | .shl | .shr => shI op k a b
    | _ => if k = j then binI op k a b else none
  | .str a, .str b => binS op a b
  | x, y => match op with
    | .eql => (eqV kd x y).map .bool
    | .neq => (eqV kd x y).map fun b => .bool (!b)
    | _ => none

def unV (op : UnOp) (x : V) : Option V :=
  match op, x with
  | .neg, .int k n => intV k (wr k (0 - n))
  | .xor, .int k n => intV k (ofU k (modK k - 1 - toU k n))
  | .not, .bool b => some (.bool !b)
  | _, _ => none

/-- The cells behind an address, from it on. -/
def V.cells (h : H) : V → Option (List V)
  | .pblk b o => (h.blk[b]?).bind fun c => if o ≤ c.2.length then some (c.2.drop o) else none
  | .pimm cs => some cs
  | _ => none

/-- A slice's elements' cells. -/
def V.elems (h : H) : V → Option (Nat × List V)
  | .sl n cs _ => some (n, cs)
  | .ms b o n _ e => (h.blk[b]?).bind fun c => if o + n * e ≤ c.2.length then some (n, (c.2.drop o).take (n * e)) else none
  | _ => none

def take1 (agg : Bool) (sz : Nat) (cs : List V) : Option V :=
  if agg then (if sz ≤ cs.length then some (.agg (cs.take sz)) else none)
  else match cs with
    | c :: _ => some c
    | [] => none

def V.asCells : V → List V
  | .agg cs => cs
  | v => [v]

/-- A value of one cell, for sure. -/
def V.one : V → Bool
  | .agg _ | .tup _ | .junk => false
  | _ => true

def putAt (cs : List V) (o : Nat) (ds : List V) : List V := cs.take o ++ ds ++ cs.drop (o + ds.length)

def byteOf : V → Option Nat
  | .int .u8 (.ofNat n) => if Nat.blt n 256 then some n else none
  | _ => none

def bytesOf (cs : List V) : Option (List Nat) := cs.mapM byteOf

def fillV : List V → List (Nat × Nat) → List V → Option (List V)
  | z, [], [] => some z
  | z, (off, sz) :: ps, v :: vs =>
    if v.asCells.length = sz ∧ off + sz ≤ z.length ∧ v.asCells.all V.one = true then fillV (putAt z off v.asCells) ps vs else none
  | _, _, _ => none

def setBlk (h : H) (b : Nat) (cs : List V) : H :=
  { h with blk := h.blk.modify b fun c => (c.1, cs) }

/-- What an operation comes to: a value; nothing, with what it made older blocks lead to; a panic; a deferred call; recover; a call. -/
inductive Rs where
  | val (v : V)
  | done (es et : Es)
  | pan (v : V)
  | dfr (f : V) (args : List V)
  | recov
  | call (f : V) (args : List V)

def boolOf : V → Option Bool
  | .bool b => some b
  | _ => none

def natOf (v : V) : Option Nat :=
  match v with
  | .int _ (.ofNat n) => some n
  | _ => none

/-- The bounds of a slice expression. -/
def bounds (len : Nat) : Bool → Bool → Bool → List V → Option (Nat × Nat × Nat)
  | lo, hi, mx, vs =>
    if mx && !hi then none else
    let l := if lo then (vs.head?).bind natOf else some 0
    let vs := if lo then vs.tail else vs
    let h := if hi then (vs.head?).bind natOf else some len
    let vs := if hi then vs.tail else vs
    let m := if mx then (vs.head?).bind natOf else some len
    match l, h, m with
    | some l, some h, some m => if l ≤ h ∧ h ≤ m ∧ m ≤ len then some (l, h, m) else none
    | _, _, _ => none

def growthOf (g : Gr) (n lo hi m : Nat) (mx : Bool) : Gr :=
  if mx then (if hi = m then .exact else .none)
  else if hi = n then (match g with | .tok t e => if lo = 0 then .tok t e else .none | g => g) else .none

def cutSl (esz n : Nat) (cs : List V) (g : Gr) (lo hi m : Nat) (mx : Bool) : V :=
  .sl (hi - lo) ((cs.drop (lo * esz)).take ((hi - lo) * esz)) (growthOf g n lo hi m mx)

def eqC : Option V → Option V → Option Bool
  | some (.int k a), some (.int j b) => if k = j then some (eqI a b) else none
  | some (.bool a), some (.bool b) => some (a == b)
  | some (.str a), some (.str b) => some (a == b)
  | _, _ => none

def eqAt (xs ys : List V) : List Nat → Option Bool
  | [] => some true
  | o :: os => match eqC xs[o]? ys[o]?, eqAt xs ys os with
    | some a, some b => some (a && b)
    | _, _ => none

def maxL (k : IntKind) (m : Int) : List V → Option V
  | [] => some (.int k m)
  | .int j b :: vs => if k = j then maxL k (if ltI m b then b else m) vs else none
  | _ => none

def minL (k : IntKind) (m : Int) : List V → Option V
  | [] => some (.int k m)
  | .int j b :: vs => if k = j then minL k (if ltI b m then b else m) vs else none
  | _ => none

def b8 (b : Nat) : V := .int .u8 b

abbrev Ro := Option (Rs × H)

def val (h : H) (v : V) : Ro := some (.val v, h)
def valO (h : H) (v : Option V) : Ro := match v with
  | some v => some (.val v, h)
  | none => none

def exMov (h : H) : List V → Ro
  | [x] => val h x
  | _ => none
def exPick (h : H) : List V → Ro
  | [c, a, b] => match boolOf c with
    | some true => val h a
    | some false => val h b
    | none => none
  | _ => none
def exNew (ty : Nat) (z : List V) (h : H) : List V → Ro
  | [] => some (.val (.pblk h.blk.length 0), { h with blk := h.blk ++ [(ty, z)] })
  | _ => none
def exBox (ty sz : Nat) (h : H) : List V → Ro
  | [x] => if x.asCells.length = sz ∧ x.asCells.all V.one = true then some (.val (.pblk h.blk.length 0), { h with blk := h.blk ++ [(ty, x.asCells)] }) else none
  | _ => none
def exLoad (agg : Bool) (sz : Nat) (h : H) : List V → Ro
  | [p] => valO h ((p.cells h).bind (take1 agg sz))
  | _ => none
def exStore (sz : Nat) (n0 : Nat) (h : H) : List V → Ro
  | [.pblk b o, x] =>
    match h.blk[b]? with
    | some c =>
      if x.asCells.length = sz ∧ o + sz ≤ c.2.length ∧ x.asCells.all V.one = true then
        if b < n0 then
          if V.yrefsL x.asCells ≠ [] then none
          else some (.done (((V.brefsL x.asCells).filter (b < ·)).map (b, ·)) ((V.trefsL x.asCells).map (b, ·)), setBlk h b (putAt c.2 o x.asCells))
        else some (.done [] [], setBlk h b (putAt c.2 o x.asCells))
      else none
    | none => none
  | _ => none
def exNilc (h : H) : List V → Ro
  | [.pblk b o] => val h (.pblk b o)
  | [.pimm cs] => val h (.pimm cs)
  | _ => none
def exBin (o : BinOp) (kd : Kd) (h : H) : List V → Ro
  | [x, y] => valO h (binV o kd x y)
  | _ => none
def exAggEq (neg : Bool) (offs : List Nat) (h : H) : List V → Ro
  | [.agg xs, .agg ys] => valO h ((eqAt xs ys offs).map fun b => .bool (if neg then !b else b))
  | _ => none
def exUn (o : UnOp) (h : H) : List V → Ro
  | [x] => valO h (unV o x)
  | _ => none
def exToInt (k : IntKind) (h : H) : List V → Ro
  | [.int _ n] => valO h (intV k (wr k n))
  | _ => none
def exS2b (h : H) : List V → Ro
  | [.str s] => val h (.sl s.length (s.map b8) .none)
  | _ => none
def exB2s (h : H) : List V → Ro
  | [x] => valO h (((x.elems h).bind fun c => if c.2.length = c.1 then bytesOf c.2 else none).map .str)
  | _ => none
def exToUns (h : H) : List V → Ro
  | [.nilp] => val h .nilp
  | [.pblk b o] => match h.blk[b]? with
    | some c => if o < c.2.length then val h (.pblk b o) else none
    | none => none
  | _ => none
def exFromUns (ty sz : Nat) (h : H) : List V → Ro
  | [.nilp] => val h .nilp
  | [.pblk b o] => match h.blk[b]? with
    | some c => if c.1 = ty ∧ o = 0 ∧ c.2.length = sz then val h (.pblk b o) else none
    | none => none
  | _ => none
def exMkI (t : Nat) (h : H) : List V → Ro
  | [x] => val h (.ifc t x)
  | _ => none
def exMkS (ty esz bytes : Nat) (z : List V) (h : H) : List V → Ro
  | [.int _ l, .int _ c] =>
    if 0 ≤ l ∧ l ≤ c ∧ (c.toNat + 1) * (bytes + 1) < roomMost then
      if c = 0 then val h (.sl 0 [] .exact)
      else if l = 0 then some (.val (.sl 0 [] (.tok h.tok.length 0)), { h with tok := h.tok ++ [(0, ty)] })
      else some (.val (.ms h.blk.length 0 l.toNat c.toNat esz), { h with blk := h.blk ++ [(ty, (List.replicate c.toNat z).flatten)] })
    else none
  | _ => none
def exSlice (k : Sk) (lo hi mx : Bool) (h : H) : List V → Ro
  | .str s :: vs => match k with
    | .str => valO h ((bounds s.length lo hi false vs).map fun (l, h, _) => .str ((s.drop l).take (h - l)))
    | _ => none
  | .sl n cs g :: vs => match k with
    | .sl esz => valO h ((bounds n lo hi mx vs).map fun (l, h, m) => cutSl esz n cs g l h m mx)
    | _ => none
  | .ms b o n c e :: vs => match k with
    | .sl esz => if e = esz ∧ mx = false then valO h ((bounds n lo hi false vs).map fun (l, h, _) => .ms b (if c = l then o else o + l * esz) (h - l) (c - l) e) else none
    | _ => none
  | _ => none
def exOff (k : Nat) (h : H) : List V → Ro
  | [.pblk b o] => val h (.pblk b (o + k))
  | [.pimm cs] => if k ≤ cs.length then val h (.pimm (cs.drop k)) else none
  | _ => none
def exFld (agg : Bool) (off sz : Nat) (h : H) : List V → Ro
  | [.agg cs] => if off + sz ≤ cs.length then valO h (take1 agg sz (cs.drop off)) else none
  | _ => none
def exIxA (arr : Option Nat) (esz : Nat) (h : H) : List V → Ro
  | [x, i] => match natOf i with
    | none => none
    | some i => match arr, x with
      | some n, .pblk b o => if i < n then val h (.pblk b (o + i * esz)) else none
      | some n, .pimm cs => if i < n ∧ i * esz ≤ cs.length then val h (.pimm (cs.drop (i * esz))) else none
      | none, .sl n cs _ => if i < n ∧ i * esz < cs.length then val h (.pimm (cs.drop (i * esz))) else none
      | none, .ms b o n _ e => if i < n ∧ e = esz then val h (.pblk b (o + i * esz)) else none
      | _, _ => none
  | _ => none
def exIxS (h : H) : List V → Ro
  | [.str s, i] => match natOf i with
    | none => none
    | some i => match s[i]? with
      | some b => val h (b8 b)
      | none => none
  | _ => none
def exIxG (n esz : Nat) (agg : Bool) (h : H) : List V → Ro
  | [.agg cs, i] => match natOf i with
    | none => none
    | some i => if i < n ∧ i * esz + esz ≤ cs.length then valO h (take1 agg esz (cs.drop (i * esz))) else none
  | _ => none
def exExt (i : Nat) (h : H) : List V → Ro
  | [.tup vs] => valO h vs[i]?
  | _ => none
def exAsrt (t : Nat) (z : V) (ok : Bool) (h : H) : List V → Ro
  | [.ifc u v] => if u = t then val h (if ok then .tup [v, .bool true] else v) else if ok then val h (.tup [z, .bool false]) else none
  | [.nilifc] => if ok then val h (.tup [z, .bool false]) else none
  | _ => none
def exSame (h : H) : List V → Ro
  | [.str s] => val h (.str s)
  | _ => none
def exLen (str : Bool) (h : H) : List V → Ro
  | [.str s] => if str then valO h (intV .i64 s.length) else none
  | [.sl n _ _] => if str then none else valO h (intV .i64 n)
  | [.ms _ _ n _ _] => if str then none else valO h (intV .i64 n)
  | _ => none
def exCap (h : H) : List V → Ro
  | [.sl n _ .exact] => val h (.int .i64 n)
  | [.sl _ _ .nil] => val h (.int .i64 0)
  | [.ms _ _ _ c _] => val h (.int .i64 c)
  | _ => none
/-- What is appended: how many elements, their cells. -/
def srcOf (h : H) : V → Option (Nat × List V)
  | .str s => some (s.length, s.map b8)
  | y => y.elems h
def exAppend1 (ty esz bytes k : Nat) (ds : List V) (h : H) : V → Ro
  | .sl n cs g =>
    if k = 0 then val h (.sl n cs g)
    else if cs.length = n * esz ∧ (n + k + 1) * (bytes + 1) < roomMost then
      match g with
      | .none | .nn => none
      | .exact | .nil => some (.val (.sl (n + k) (cs ++ ds) (.tok h.tok.length (n + k))), { h with tok := h.tok ++ [(n + k, ty)] })
      | .tok t e => if h.tok[t]? = some (e, ty) ∧ e = n then some (.val (.sl (n + k) (cs ++ ds) (.tok t (e + k))), { h with tok := h.tok.set t (e + k, ty) }) else none
    else none
  | .ms b o n c e =>
    if e = esz ∧ (n + k + 1) * (bytes + 1) < roomMost ∧ c < n + k then
      match (V.ms b o n c e).elems h with
      | some (_, cs) => some (.val (.sl (n + k) (cs ++ ds) (.tok h.tok.length (n + k))), { h with tok := h.tok ++ [(n + k, ty)] })
      | none => none
    else none
  | _ => none
def exAppend (ty esz bytes : Nat) (h : H) : List V → Ro
  | [x, y] => match srcOf h y with
    | some (k, ds) => if ds.length = k * esz ∧ ds.all V.one = true then exAppend1 ty esz bytes k ds h x else none
    | none => none
  | _ => none
def exMax (h : H) : List V → Ro
  | .int k a :: vs => valO h (maxL k a vs)
  | _ => none
def exMin (h : H) : List V → Ro
  | .int k a :: vs => valO h (minL k a vs)
  | _ => none
def exSliData (h : H) : List V → Ro
  | [.sl n cs (.tok t e)] => match h.tok[t]? with
    | some (m, ty) => if m = e ∧ 0 < n then val h (.pby ty cs) else none
    | none => none
  | _ => none
def exStrData (ty : Nat) (h : H) : List V → Ro
  | [.pby u cs, .int _ (.ofNat n)] => if u = ty ∧ 0 < n ∧ n ≤ cs.length ∧ n < roomMost then valO h ((bytesOf (cs.take n)).map .str) else none
  | _ => none
def exPan (h : H) : List V → Ro
  | [.ifc t v] => some (.pan (.ifc t v), h)
  | _ => none
def exCall (h : H) : List V → Ro
  | .fn f caps :: vs => some (.call (.fn f caps) vs, h)
  | .yld l :: vs => some (.call (.yld l) vs, h)
  | _ => none
def exDfr (h : H) : List V → Ro
  | .fn f caps :: vs => some (.dfr (.fn f caps) vs, h)
  | _ => none
def exBuild (z : List V) (ps : List (Nat × Nat)) (h : H) (vs : List V) : Ro := valO h ((fillV z ps vs).map .agg)
def exBuildSl (n : Nat) (z : List V) (ps : List (Nat × Nat)) (h : H) (vs : List V) : Ro := valO h ((fillV z ps vs).map fun cs => .sl n cs .exact)
def exRecov (h : H) : List V → Ro
  | [] => some (.recov, h)
  | _ => none

def ex (n0 : Nat) (op : A) (vs : List V) (h : H) : Ro :=
  match op with
  | .mov => exMov h vs
  | .pick => exPick h vs
  | .new ty z => exNew ty z h vs
  | .box ty sz => exBox ty sz h vs
  | .build z ps => exBuild z ps h vs
  | .buildSl n z ps => exBuildSl n z ps h vs
  | .load agg sz => exLoad agg sz h vs
  | .store sz => exStore sz n0 h vs
  | .nilc => exNilc h vs
  | .bin o kd => exBin o kd h vs
  | .aggEq neg offs => exAggEq neg offs h vs
  | .un o => exUn o h vs
  | .toInt k => exToInt k h vs
  | .same => exSame h vs
  | .s2b => exS2b h vs
  | .b2s => exB2s h vs
  | .toUns => exToUns h vs
  | .fromUns ty sz => exFromUns ty sz h vs
  | .mkI t => exMkI t h vs
  | .mkF f => val h (.fn f vs)
  | .mkS ty esz bytes z => exMkS ty esz bytes z h vs
  | .slice k lo hi mx => exSlice k lo hi mx h vs
  | .off k => exOff k h vs
  | .fld agg off sz => exFld agg off sz h vs
  | .ixA arr esz => exIxA arr esz h vs
  | .ixS => exIxS h vs
  | .ixG n esz agg => exIxG n esz agg h vs
  | .ext i => exExt i h vs
  | .asrt t z ok => exAsrt t z ok h vs
  | .call => exCall h vs
  | .len str => exLen str h vs
  | .cap => exCap h vs
  | .append ty esz bytes => exAppend ty esz bytes h vs
  | .copy _ => none
  | .max => exMax h vs
  | .min => exMin h vs
  | .strData ty => exStrData ty h vs
  | .sliData => exSliData h vs
  | .recov => exRecov h vs
  | .dfr => exDfr h vs
  | .pan => exPan h vs
  | .mat _ _ _ => none

-- ---------------------------------------------------------------- regions
def O.ev (tm : Tm) : O → V
  | .t i => tm.get i
  | .v x => x

def wanted (g : Option (Nat × Bool)) (tm : Tm) : Option Bool :=
  match g with
  | none => some true
  | some (t, want) => match tm.get t with
    | .bool b => some (b == want)
    | .tup _ => some false
    | _ => none

def putD (tm : Tm) (d : Option Nat) (v : V) : Tm :=
  match d with
  | some i => tm.put i v
  | none => tm

def undefV : V := .tup []

/-- One operation, calls carried out. -/
def stepR (call : Caller) (n0 : Nat) (o : Op1) (s : St) (h : H) : Rs → Option (X × St)
  | .val v => some (.norm, { s with tm := putD s.tm o.dst v, h })
  | .done es et => some (.norm, { s with tm := putD s.tm o.dst undefV, h, es := es ++ s.es, et := et ++ s.et })
  | .pan v => some (.pan v, { s with h })
  | .dfr f vs => if s.rnd then none else some (.norm, { s with tm := putD s.tm o.dst undefV, h, df := .fn f vs :: s.df })
  | .recov => if s.rnd then none else match s.rc with
    | .on v => some (.norm, { s with tm := putD s.tm o.dst v, h, rc := .done })
    | _ => some (.norm, { s with tm := putD s.tm o.dst .nilifc, h })
  | .call f vs => match call f vs .off h with
    | none => none
    | some u =>
      let es := u.es.filter (·.1 < n0) ++ s.es
      let et := u.et.filter (·.1 < n0) ++ s.et
      match u.r with
      | .ret v => some (.norm, { s with tm := putD s.tm o.dst v, h := u.h, es, et })
      | .pan v => some (.pan v, { s with h := u.h, es, et })

def step1 (call : Caller) (n0 : Nat) (o : Op1) (s : St) : Option (X × St) :=
  match ex n0 o.op (o.args.map (O.ev s.tm)) s.h with
  | none => none
  | some p => stepR call n0 o s p.2 p.1

/-- What a region does with an operation, and then with the rest. -/
def stepV (call : Caller) (n0 : Nat) (o : Op1) (k : St → Option (X × St)) (s : St) (h : H) : Rs → Option (X × St)
  | .val v => k { s with tm := putD s.tm o.dst v, h }
  | r => match stepR call n0 o s h r with
    | some (.norm, s) => k s
    | r => r

def stepO (call : Caller) (n0 : Nat) (o : Op1) (k : St → Option (X × St)) (s : St) : Option (X × St) :=
  match ex n0 o.op (o.args.map (O.ev s.tm)) s.h with
  | none => none
  | some p => stepV call n0 o k s p.2 p.1

def stepG (call : Caller) (n0 : Nat) (o : Op1) (k : St → Option (X × St)) (s : St) (w : Option Bool) : Option (X × St) :=
  match w with
  | none => none
  | some false => k { s with tm := putD s.tm o.dst undefV }
  | some true => stepO call n0 o k s

def stepK (call : Caller) (n0 : Nat) (o : Op1) (k : St → Option (X × St)) (s : St) : Option (X × St) :=
  match o.grd with
  | none => stepO call n0 o k s
  | some g => stepG call n0 o k s (wanted (some g) s.tm)

def runOps (call : Caller) (n0 : Nat) : List Op1 → St → Option (X × St)
  | [], s => some (.norm, s)
  | o :: os, s => stepK call n0 o (runOps call n0 os) s

-- ---------------------------------------------------------------- a region that draws its order
/-- The operations that write: in a region that draws, all of them stand in one row. -/
def A.writes (wr : Nat → Bool) : A → List V → Bool
  | .store _, _ | .append _ _ _, _ | .copy _, _ => true
  | .call, .fn f _ :: _ => wr f
  | .call, _ => true
  | _, _ => false

structure Dr where
  s : St
  hs : List (Nat × H) := []                       -- each writer's number, and the heap ahead of it
  rd : List (Nat × A × List V × V) := []          -- each other operation: its number, itself, its operands, its value

/-- Loops as they were, so far as a run can change them. -/
def sameLps : List Lp → List Lp → Bool
  | [], [] => true
  | p :: ps, q :: qs => p.ready == q.ready && p.done == q.done && (match p.pend, q.pend with | none, none => true | _, _ => false) && sameLps ps qs
  | _, _ => false

def sameBlk : List (Nat × List V) → List (Nat × List V) → Bool
  | [], [] => true
  | x :: xs, y :: ys => x.1 == y.1 && V.beqL x.2 y.2 && sameBlk xs ys
  | _, _ => false

def H.same (a b : H) : Bool := sameBlk a.blk b.blk && a.tok == b.tok && sameLps a.lps b.lps

/-- An operation that writes nothing, at a heap: its value, if it leaves the heap as it was. -/
def quiet1 (call : Caller) (n0 : Nat) (op : A) (vs : List V) (h : H) : Option V :=
  match op with
  | .new _ _ | .box _ _ | .mkS _ _ _ _ | .store _ | .append _ _ _ | .copy _ => none
  | .mat b ty z => match h.blk[b]? with
    | some c => if c.1 == ty && V.beqL c.2 z && Nat.ble n0 b then some (.pblk b 0) else none
    | none => none
  | op => match ex n0 op vs h with
    | some (.val v, _) => some v
    | some (.call f as, _) => match call f as .off h with
      | some { r := .ret v, h := h', es := [], et := [], .. } => if H.same h' h then some v else none
      | _ => none
    | _ => none

def draw1 (call : Caller) (wr : Nat → Bool) (n0 : Nat) (j : Nat) (o : Op1) (rest : List Op1) (d : Dr) : Option (X × Dr) :=
  match wanted o.grd d.s.tm with
  | none => none
  | some false => some (.norm, { d with s := { d.s with tm := putD d.s.tm o.dst undefV } })
  | some true =>
    let vs := o.args.map (O.ev d.s.tm)
    if o.op.writes wr vs then
      if d.hs.all fun (i, _) => o.bef.contains i then
        match step1 call n0 o d.s with
        | some (.norm, s) =>
          if d.rd.all fun (i, op, vs, v) => o.bef.contains i || (match quiet1 call n0 op vs s.h with | some u => V.beq u v | none => false) then
            some (.norm, { s, hs := (j, d.s.h) :: d.hs, rd := d.rd })
          else none
        | some (.pan v, s) => if rest.all fun p => p.bef.contains j then some (.pan v, { d with s }) else none
        | _ => none
      else none
    else
      match quiet1 call n0 o.op vs d.s.h with
      | none => none
      | some v =>
        if d.hs.all fun (i, h) => o.bef.contains i || (match quiet1 call n0 o.op vs h with | some u => V.beq u v | none => false) then
          some (.norm, { d with s := { d.s with tm := putD d.s.tm o.dst v }, rd := (j, o.op, vs, v) :: d.rd })
        else none

def drawRun (call : Caller) (wr : Nat → Bool) (n0 : Nat) : List Op1 → Nat → Dr → Option (X × Dr)
  | [], _, d => some (.norm, d)
  | o :: os, j, d => match draw1 call wr n0 j o os d with
    | some (.norm, d) => drawRun call wr n0 os (j + 1) d
    | r => r

def junkAll (ops : List Op1) (tm : Tm) : Tm := ops.foldl (fun tm o => putD tm o.dst .junk) tm

/-- New variables of a region that draws are laid ahead of it. -/
def hoist : Nat → List Op1 → List (Nat × List V) × List Op1
  | _, [] => ([], [])
  | b, o :: os => match o.op with
    | .new ty z => let (zs, os) := hoist (b + 1) os; ((ty, z) :: zs, { o with op := .mat b ty z, args := [] } :: os)
    | .mat _ _ _ => let (zs, os) := hoist b os; (zs, { o with op := .dfr, args := [] } :: os)
    | _ => let (zs, os) := hoist b os; (zs, o :: os)

def drawOps (call : Caller) (wr : Nat → Bool) (n0 : Nat) (ops : List Op1) (s : St) : Option (X × St) :=
  let (zs, ops') := hoist s.h.blk.length ops
  match drawRun call wr n0 ops' 0 { s := { s with h := { s.h with blk := s.h.blk ++ zs } } } with
  | some (.norm, d) => some (.norm, d.s)
  | some (.pan v, d) => some (.pan v, { d.s with tm := junkAll ops s.tm })
  | _ => none

-- ---------------------------------------------------------------- code
def loopIt (body : St → Option (X × St)) : Nat → St → Option (X × St)
  | 0, _ => none
  | n + 1, s => match body s with
    | some (.norm, s) => forceT s.tm fun tm => loopIt body n { s with tm }
    | r => r

def setLp (h : H) (l : Nat) (p : Lp) : H := { h with lps := h.lps.set l p }

def run (E : Env) (call : Caller) (fuel : Nat) (n0 : Nat) : C → St → Option (X × St)
  | .skip, s => some (.norm, s)
  | .reg ops, s => runOps call n0 ops s
  | .draw ops, s => drawOps call E.wr n0 ops s
  | .seq a b, s => match run E call fuel n0 a s with
    | some (.norm, s) => run E call fuel n0 b s
    | r => r
  | .cond c a b, s => match boolOf (c.ev s.tm) with
    | some true => run E call fuel n0 a s
    | some false => run E call fuel n0 b s
    | none => none
  | .block id c, s => match run E call fuel n0 c s with
    | some (.exit i, s) => if i = id then some (.norm, s) else some (.exit i, s)
    | r => r
  | .loop c, s => loopIt (run E call fuel n0 c) fuel s
  | .exit id, s => some (.exit id, s)
  | .ret, s => some (.ret, s)
  | .rangeF f ps as body, s => if s.rnd then none else
    let l := s.h.lps.length
    let h := { s.h with lps := s.h.lps ++ [{ ready := true, done := false, pend := none, tm := s.tm, params := ps, assign := as, body }] }
    match f.ev s.tm with
    | .fn g caps => match call (.fn g caps) [.yld l] .off h with
      | none => none
      | some u =>
        if u.h.blk.length ≠ s.h.blk.length ∨ u.h.lps.length ≠ l + 1 then none else
        match u.h.lps[l]? with
        | none => none
        | some p =>
          let h := { u.h with lps := u.h.lps.take l }
          let s := { s with h, es := u.es.filter (·.1 < n0) ++ s.es, et := u.et.filter (·.1 < n0) ++ s.et, df := .coll :: s.df }
          match u.r with
          | .pan v => if v.yrefs.all (· < l) then some (.pan v, s) else none
          | .ret _ => if p.ready || p.done then some ((p.pend.getD .norm), s) else none
    | _ => none
  | .bad, _ => none

-- ---------------------------------------------------------------- calls
inductive Mode where
  | retn | pang (v : V)

def modeX : X → Option Mode
  | .norm | .ret => some .retn
  | .pan v => some (.pang v)
  | .exit _ => none

/-- The deferred calls, the last first. -/
def runDf (call : Caller) (n0 : Nat) : List D → Mode → H → Es → Es → Option (Mode × H × Es × Es)
  | [], m, h, es, et => some (m, h, es, et)
  | .coll :: ds, m, h, es, et => runDf call n0 ds m h es et
  | .fn f vs :: ds, m, h, es, et =>
    match call f vs (match m with | .retn => .dfr | .pang v => .on v) h with
    | some { r := .ret _, h, es := es', et := et', rc } =>
      runDf call n0 ds (match m, rc with | .pang _, .done => .retn | m, _ => m) h (es'.filter (·.1 < n0) ++ es) (et'.filter (·.1 < n0) ++ et)
    | _ => none

def rvOf (tm : Tm) (h : H) : RV → Option V
  | .t i => some (tm.get i)
  | .cell agg sz t => ((tm.get t).cells h).bind (take1 agg sz)

def resOf (tm : Tm) (h : H) (rs : List RV) : Option V :=
  (rs.mapM (rvOf tm h)).map fun vs => match vs with
    | [v] => v
    | vs => .tup vs

/-- What of a call's own stays: nothing, if nothing leads to it. -/
def fin (n0 m0 : Nat) (keep : Bool) (r : V) (h : H) (es et : Es) : V × H :=
  let r' := if keep then r else V.norm h n0 4 r
  if (V.brefs r').all (· < n0) && es.all fun (_, x) => x < n0 then
    if (V.trefs r').all (· < m0) && et.all fun (_, x) => x < m0 then (r', { h with blk := h.blk.take n0, tok := h.tok.take m0 })
    else (r', { h with blk := h.blk.take n0 })
  else (r, h)

def extV : Xfn → List V → Option V
  | .same, [x] => some x
  | .indexByte, [.str s, .int .u8 (.ofNat c)] => if Nat.blt c 256 then some (.int .i64 (match s.findIdx? (· == c) with | some i => (i : Int) | none => -1)) else none
  | .count, [.str s, .int .u8 (.ofNat c)] => if Nat.blt c 256 then some (.int .i64 ((s.countP (· == c) : Nat) : Int)) else none
  | _, _ => none

def callFn1 (E : Env) (call : Caller) (fuel : Nat) (f : Nat) (args : List V) (rc : Rc) (h : H) : Option Out :=
  match E.orc f args with
  | some v => match rc with
    | .off => some { r := .ret v, h, rc }
    | _ => none
  | none => match E.fn f with
    | none => none
    | some (.ext x) => match rc with
      | .off => (extV x args).map fun v => { r := .ret v, h, rc }
      | _ => none
    | some (.code ntm body res keep) =>
      let n0 := h.blk.length
      let m0 := h.tok.length
      match run E call fuel n0 body { tm := (Tm.mk undefV (Nat.log2 ntm + 1) ntm).puts 0 args, h, rc } with
      | none => none
      | some (x, s) =>
        match modeX x with
        | none => none
        | some m => match runDf call n0 s.df m s.h s.es s.et with
          | none => none
          | some (.retn, h', es, et) => match resOf s.tm h' res with
            | none => none
            | some v => let (v, h') := fin n0 m0 keep v h' es et
              some { r := .ret v, h := h', es, et, rc := s.rc }
          | some (.pang v, h', es, et) => let (v, h') := fin n0 m0 keep v h' es et
              some { r := .pan v, h := h', es, et, rc := s.rc }

def stayed (h : H) (a : Out) : Bool := H.same a.h h && a.es.isEmpty && a.et.isEmpty && (match a.rc with | .off => true | _ => false)
def sameOut (h : H) (a b : Out) : Bool := (match a.r, b.r with | .ret v, .ret u => V.beq v u | _, _ => false) && stayed h a && stayed h b

/-- A function that looks whether an empty slice is nil is asked twice: both answers must be one. -/
def callFn (E : Env) (call : Caller) (fuel : Nat) (f : Nat) (args : List V) (rc : Rc) (h : H) : Option Out :=
  match E.split f with
  | none => callFn1 E call fuel f args rc h
  | some i => match args[i]? with
    | some (.sl 0 [] .none) | some (.sl 0 [] .exact) => match rc with
      | .off => match callFn1 E call fuel f (args.set i (.sl 0 [] .nil)) rc h, callFn1 E call fuel f (args.set i (.sl 0 [] .nn)) rc h with
        | some a, some b => if sameOut h a b then some { r := a.r, h, rc := .off } else none
        | _, _ => none
      | _ => none
    | _ => callFn1 E call fuel f args rc h

/-- A round of a loop over a function. -/
def callYld (E : Env) (call : Caller) (fuel : Nat) (l : Nat) (args : List V) (h : H) : Option Out :=
  match h.lps[l]? with
  | none => none
  | some p =>
    if args.length == p.params.length then
      let n0 := h.blk.length
      let m0 := h.tok.length
      let tm := (p.params.zip args).foldl (fun tm (i, v) => tm.put i v) p.tm
      match run E call fuel n0 p.assign { tm, h, rnd := true } with
      | some (.norm, s) =>
        match s.h.lps[l]? with
        | none => none
        | some p1 => if p1.ready then
          match run E call fuel n0 p.body { s with h := setLp s.h l { p1 with ready := false, done := false } } with
          | none => none
          | some (x, s) =>
            if !s.df.isEmpty then none else
            match x with
            | .pan v => let (v, h') := fin n0 m0 false v s.h s.es s.et
              some { r := .pan v, h := h', es := s.es, et := s.et }
            | x =>
              match s.h.lps[l]? with
              | none => none
              | some p2 =>
                let (nx, pd) : Bool × Option X := match x with | .norm => (true, none) | x => (false, some x)
                let h := setLp s.h l { p2 with ready := nx, done := !nx, pend := pd }
                let (v, h') := fin n0 m0 false (.bool nx) h s.es s.et
                some { r := .ret v, h := h', es := s.es, et := s.et }
          else none
      | _ => none
    else none

def eval (E : Env) : Nat → Caller
  | 0, _, _, _, _ => none
  | n + 1, f, args, rc, h => match f with
    | .fn g caps => callFn E (eval E n) n g (args ++ caps) rc h
    | .yld l => match rc with
      | .off => callYld E (eval E n) n l args h
      | _ => none
    | _ => none

end Go.Sim

/- From the loaded code to the evaluator's code. Conditions: none (definitions alone). -/
namespace Go.Sim

mutual
def constV : Value → Option V
  | .bool b => some (.bool b)
  | .int k n => some (.int k n)
  | .string s => some (.str (s.data.toList.map (·.toNat)))
  | .pointer none => some .nilp
  | .slice none 0 0 => some (.sl 0 [] .nil)
  | .nilFunc => some .nilfn
  | .nilIface => some .nilifc
  | .agg ⟨cs⟩ => (constL cs).map .agg
  | .tuple ⟨cs⟩ => (constL cs).map .tup
  | _ => none
def constL : List Value → Option (List V)
  | [] => some []
  | v :: vs => match constV v, constL vs with
    | some x, some xs => some (x :: xs)
    | _, _ => none
end

/-- What the package-level variables hold that are never written. -/
abbrev Tab := Nat → Option (List V)

def operand (tab : Tab) : Operand → Option O
  | .tmp t => some (.t t)
  | .const v => (constV v).map .v
  | .global g => (tab g).map fun cs => .v (.pimm cs)
  | .func f => some (.v (.fn f []))

def allSome {α : Type} : List (Option α) → Option (List α)
  | [] => some []
  | none :: _ => none
  | some x :: xs => (allSome xs).map (x :: ·)

def operands (tab : Tab) (xs : List Operand) : Option (List O) := allSome (xs.map (operand tab))

def zeroOf (P : Program) (t : TypeId) : Option V := (P.info? t).bind fun i => i.zero.bind constV
def aggB (P : Program) (t : TypeId) : Option Bool :=
  match P.underlying t with
  | some (.struct _) | some (.array _ _) => some true
  | some _ => some false
  | none => none
def sizeB (P : Program) (t : TypeId) : Option Nat := (P.info? t).map (·.size)

/-- The places of a struct's fields, or of an array's elements. -/
def places (P : Program) (t : TypeId) (is : List Nat) : Option (List (Nat × Nat)) :=
  match P.underlying t with
  | some (.struct fs) => (fs.toList.mapM fun f => (P.info? f.type).map fun i => (f.offset, i.size)).bind fun all => allSome (is.map (all[·]?))
  | some (.array _ e) => (sizeB P e).map fun n => is.map fun i => (i * n, n)
  | _ => none

def scalarFields (P : Program) (fs : List Field) : Option (List Nat) :=
  allSome (fs.map fun f => match P.underlying f.type with
    | some .bool | some (.int _) | some .string => if f.name = "_" then none else some f.offset
    | _ => none)

def builtinA (P : Program) (b : Builtin) (ts : List TypeId) : Option A :=
  match b with
  | .len => match (ts[0]?).bind P.underlying with
    | some .string => some (.len true)
    | some (.slice _) => some (.len false)
    | _ => none
  | .cap => match (ts[0]?).bind P.underlying with
    | some (.slice _) => some .cap
    | _ => none
  | .append => match ts with
    | [t, u] => match P.underlying t, P.underlying u with
      | some (.slice e), some .string | some (.slice e), some (.slice _) => (P.info? e).bind fun i => if i.size = 0 ∨ (i.zero.map fun z => z.cells.size) ≠ some i.size then none else some (.append e i.size i.bytes)
      | _, _ => none
    | _ => none
  | .max => some .max
  | .min => some .min
  | .recover => some .recov
  | .unsafeSliceData => some .sliData
  | .unsafeString => match ts with
    | [pt, _] => match P.underlying pt with
      | some (.pointer e) => match sizeB P e with
        | some 1 => some (.strData e)
        | _ => none
      | _ => none
    | _ => none
  | _ => none

def convA (P : Program) (src dst : TypeId) : Option A :=
  match P.underlying src, P.underlying dst with
  | some (.int _), some (.int k) => some (.toInt k)
  | some .string, some .string => some .same
  | some .string, some (.slice e) => match P.underlying e with
    | some (.int .u8) => some .s2b
    | _ => none
  | some (.slice e), some .string => match P.underlying e with
    | some (.int .u8) => some .b2s
    | _ => none
  | some (.pointer e), some .unsafePointer => match sizeB P e with
    | some (_ + 1) => some .toUns
    | _ => none
  | some .unsafePointer, some (.pointer e) => match sizeB P e with
    | some (n + 1) => some (.fromUns e (n + 1))
    | _ => none
  | _, _ => none

def opA (P : Program) (tab : Tab) (op : Op) : Option (A × List O) :=
  let one (a : A) (xs : List Operand) : Option (A × List O) := (operands tab xs).map (a, ·)
  match op with
  | .move x | .assign x => one .mov [x]
  | .pick c a b => one .pick [c, a, b]
  | .alloc t => (zeroOf P t).bind fun z => one (.new t z.asCells) []
  | .box t x => (sizeB P t).bind fun n => one (.box t n) [x]
  | .build t ps => (zeroOf P t).bind fun z => (places P t (ps.toList.map (·.1))).bind fun pl => one (.build z.asCells pl) (ps.toList.map (·.2))
  | .buildSlice t len ps => match P.underlying t with
    | some (.slice e) => (sizeB P e).bind fun n => if n = 0 ∨ len * n > 2 ^ 24 then none else (zeroOf P e).bind fun z => if z.asCells.length ≠ n then none else
        one (.buildSl len (List.replicate len z.asCells).flatten (ps.toList.map fun p => (p.1 * n, n))) (ps.toList.map (·.2))
    | _ => none
  | .load t a => (aggB P t).bind fun g => (sizeB P t).bind fun n => one (.load g n) [a]
  | .store t a x => (sizeB P t).bind fun n => one (.store n) [a, x]
  | .nilCheck x => one .nilc [x]
  | .binOp op t x y _ => match P.underlying t, op with
    | some (.pointer e), op => match sizeB P e with
      | some (_ + 1) => one (.bin op .ptr) [x, y]
      | _ => none
    | some .bool, op => one (.bin op .bool) [x, y]
    | some (.int _), op | some .string, op => one (.bin op .none) [x, y]
    | some (.interface _), op => one (.bin op .ifc) [x, y]
    | some (.slice _), op => one (.bin op .sl) [x, y]
    | _, _ => none
  | .unOp op _ x => one (.un op) [x]
  | .convert src dst x => (convA P src dst).bind fun a => one a [x]
  | .makeInterface t x => match P.underlying t with
    | some (.interface _) | none => none
    | _ => one (.mkI t) [x]
  | .makeFunc (.func f) ⟨[]⟩ caps => one (.mkF f) caps.toList
  | .makeSlice t l c => match P.underlying t with
    | some (.slice e) => (P.info? e).bind fun i => if i.size = 0 then none else (zeroOf P e).bind fun z => if z.asCells.length ≠ i.size then none else one (.mkS e i.size i.bytes z.asCells) [l, c]
    | _ => none
  | .slice t x lo hi mx =>
    let xs := [x] ++ lo.toList ++ hi.toList ++ mx.toList
    match P.underlying t with
    | some .string => if mx.isSome then none else one (.slice .str lo.isSome hi.isSome false) xs
    | some (.slice e) => (sizeB P e).bind fun n => one (.slice (.sl n) lo.isSome hi.isSome mx.isSome) xs
    | _ => none
  | .fieldAddr t x f => match P.underlying t with
    | some (.struct fs) => (fs[f]?).bind fun f => (sizeB P f.type).bind fun n => if n = 0 then none else one (.off f.offset) [x]
    | _ => none
  | .field t x f => match P.underlying t with
    | some (.struct fs) => (fs[f]?).bind fun f => (aggB P f.type).bind fun g => (sizeB P f.type).bind fun n => one (.fld g f.offset n) [x]
    | _ => none
  | .indexAddr t x i => match P.underlying t with
    | some (.array n e) => (sizeB P e).bind fun s => one (.ixA (some n) s) [x, i]
    | some (.slice e) => (sizeB P e).bind fun s => one (.ixA none s) [x, i]
    | _ => none
  | .index t x i => match P.underlying t with
    | some .string => one .ixS [x, i]
    | some (.array n e) => (sizeB P e).bind fun s => (aggB P e).bind fun g => one (.ixG n s g) [x, i]
    | _ => none
  | .extract x i => one (.ext i) [x]
  | .typeAssert x _ t ok => match P.underlying t with
    | some (.interface _) | none => none
    | _ => (zeroOf P t).bind fun z => one (.asrt t z ok) [x]
  | .call { callee := .value f, args, .. } => one .call (f :: args.toList)
  | .call { callee := .builtin b, args, argTypes } => (builtinA P b argTypes.toList).bind fun a => one a args.toList
  | .defer { callee := .value f, args, .. } => one .dfr (f :: args.toList)
  | .panic x => one .pan [x]
  | _ => none

/-- What always comes ahead of each operation of a region, whatever order is drawn. -/
def befs (ops : List Oper) : List (List Nat) :=
  ops.foldl (fun acc o => acc ++ [(o.after.toList.flatMap fun e => if Region.binds .any e then e.on :: acc.getD e.on [] else []).eraseDups]) []

def oper (P : Program) (tab : Tab) (ops : List Oper) (o : Oper) (bef : List Nat) : Option Op1 :=
  (opA P tab o.op).bind fun (a, xs) =>
    match o.guard with
    | none => some { dst := o.dst, op := a, args := xs, grd := none, bef }
    | some (j, w) => ((ops[j]?).bind (·.dst)).map fun t => { dst := o.dst, op := a, args := xs, grd := some (t, w), bef }

def O.tmps : O → List Nat
  | .t i => [i]
  | .v _ => []

def Op1.looks (o : Op1) : List Nat := o.args.flatMap O.tmps ++ (match o.grd with | some (t, _) => [t] | none => [])

/-- A region that draws: no two operations write one temporary; who reads what another one writes stands in one row with it. -/
def drawOk (ops : List Op1) : Bool :=
  let n := ops.length
  (List.range n).all fun i => (List.range n).all fun j =>
    i == j || match ops[i]?, ops[j]? with
      | some a, some b => match a.dst with
        | some t => b.dst != some t && (!(b.looks.contains t) || a.bef.contains j || b.bef.contains i)
        | none => true
      | _, _ => false

/-- Whatever an operation waits for stands ahead of it. -/
def aftOk (ops : List Oper) : Bool := (List.range ops.length).all fun j => match ops[j]? with
  | some o => o.after.toList.all fun e => !Region.binds .any e || Nat.blt e.on j
  | none => true

def code (P : Program) (tab : Tab) : Code → C
  | .skip => .skip
  | .region _ ops draw =>
    if draw then
      match allSome ((ops.toList.zip (befs ops.toList)).map fun (o, b) => oper P tab ops.toList o b) with
      | none => .bad
      | some os => if drawOk os && aftOk ops.toList then .draw os else .bad
    else
      match allSome (ops.toList.map fun o => oper P tab ops.toList o []) with
      | none => .bad
      | some os => .reg os
  | .seq a b => .seq (code P tab a) (code P tab b)
  | .cond c a b => match operand tab c with
    | some c => .cond c (code P tab a) (code P tab b)
    | none => .bad
  | .block id c => .block id (code P tab c)
  | .loop c => .loop (code P tab c)
  | .rangeFunc f ps as b => match operand tab f with
    | some f => .rangeF f ps.toList (code P tab as) (code P tab b)
    | none => .bad
  | .exit id => .exit id
  | .ret => .ret
  | _ => .bad

def resRV (P : Program) : ResultVar → Option RV
  | .tmp t => some (.t t)
  | .cell t ty => (aggB P ty).bind fun g => (sizeB P ty).map fun n => .cell g n t

def extOf (name : String) : Option Xfn :=
  if name = "internal/abi.NoEscape" then some .same
  else if name = "internal/bytealg.IndexByteString" then some .indexByte
  else if name = "internal/bytealg.CountString" then some .count
  else none

def fnOf (P : Program) (tab : Tab) (keep : Nat → Bool) (f : Nat) : Option Fun1 :=
  (P.funcs[f]?).bind fun fn => if fn.name == "runtime.NumGoroutine" then none else match fn.body with
    | some c => (allSome (fn.results.toList.map (resRV P))).map fun rs => .code fn.ntmps (code P tab c) rs (keep f)
    | none => (extOf fn.name).map .ext

def envOf (P : Program) (tab : Tab) (keep wr : Nat → Bool) (split : Nat → Option Nat) (orc : Nat → List V → Option V) : Env :=
  { fn := fnOf P tab keep, orc, wr, split }

end Go.Sim

/- What the evaluator's values and heap have to do with the machine's: the relation, that it lasts, and what may be forgotten. Conditions: none. -/
set_option linter.unusedSimpArgs false
set_option linter.unusedVariables false
namespace Go.Sim

/-- What a block of the machine's is to the evaluator: nothing; it lay there before, and never changes; its block b; a row, of which these cells never change; its loop l; the calls that a function's loops defer (none). -/
inductive Own where
  | free
  | old (o : Obj)
  | blk (b : Nat)
  | row (ty : Nat) (f : Nat → Option Value) (t : Option Nat)
  | lp (l : Nat)
  | dfr

structure TkI where
  blk : Nat
  cap : Nat

structure G where
  own : Nat → Own
  phi : Nat → Nat
  tk : Nat → TkI
  lp : Nat → Nat
  io : (Os × Array (Nat × ByteArray)) × (Nat → Nat → Bool)      -- the outer world; which cells of what lay there before may be looked at

/-- A cell that never changes. -/
def G.at (g : G) (B o : Nat) : Option Value :=
  match g.own B with
  | .old (.cells c _ _) => bif g.io.2 B o then c[o]? else none
  | .row _ f _ => f o
  | _ => none

abbrev Toks := List (Nat × Nat)

def natsOf (b : ByteArray) : List Nat := b.data.toList.map (·.toNat)

section
variable (P : Program) (g : G) (tok : Toks)

def GrR (n : Nat) (gr : Gr) (a : Option Addr) (c : Nat) : Prop :=
  match gr with
  | .none => True
  | .exact => c = n
  | .nil => a = none ∧ c = 0
  | .nn => a.isSome = true
  | .tok t e => ∃ m ty, tok[t]? = some (m, ty) ∧ e ≤ m ∧ (m = e → ∃ o, a = some ⟨(g.tk t).blk, o, none⟩ ∧ o + n * P.cellsOf ty = e * P.cellsOf ty ∧ c + e = n + (g.tk t).cap ∧ e ≤ (g.tk t).cap)

mutual
def VR : V → Value → Prop
  | .bool b, v => v = .bool b
  | .int k n, v => v = .int k n
  | .str s, v => ∃ b : ByteArray, v = .string b ∧ s = natsOf b
  | .nilp, v => v = .pointer none
  | .pblk b o, v => v = .pointer (some ⟨g.phi b, o, none⟩) ∧ g.own (g.phi b) = .blk b
  | .pimm cs, v => ∃ B o, v = .pointer (some ⟨B, o, none⟩) ∧ CR cs B o
  | .pby ty cs, v => ∃ B o f t, v = .pointer (some ⟨B, o, none⟩) ∧ CR cs B o ∧ g.own B = .row ty f t
  | .sl n cs gr, v => ∃ a c, v = .slice a n c ∧ (cs = [] ∨ ∃ B o, a = some ⟨B, o, none⟩ ∧ CR cs B o) ∧ (n ≤ c ∧ (a = none → c = 0)) ∧ GrR P g tok n gr a c
  | .ms b o n c _, v => v = .slice (some ⟨g.phi b, o, none⟩) n c ∧ n ≤ c ∧ g.own (g.phi b) = .blk b
  | .fn f caps, v => ∃ cvs : List Value, v = .func (.func f) #[] cvs.toArray ∧ LR caps cvs
  | .yld l, v => v = .func (.yield (g.lp l)) #[] #[] ∧ g.own (g.lp l) = .lp l
  | .nilfn, v => v = .nilFunc
  | .ifc t x, v => ∃ y, v = .iface t y ∧ VR x y
  | .nilifc, v => v = .nilIface
  | .agg cs, v => ∃ cvs : List Value, v = .agg cvs.toArray ∧ LR cs cvs
  | .tup cs, v => ∃ cvs : List Value, v = .tuple cvs.toArray ∧ LR cs cvs
  | .junk, _ => True
def LR : List V → List Value → Prop
  | [], l => l = []
  | v :: vs, l => ∃ c cs, l = c :: cs ∧ VR v c ∧ LR vs cs
def CR : List V → Nat → Nat → Prop
  | [], _, _ => True
  | v :: vs, B, o => (∃ c, g.at B o = some c ∧ VR v c) ∧ CR vs B (o + 1)
end
end

section
variable {P : Program} {g : G} {tok : Toks}

theorem LR.length {vs : List V} {cs : List Value} (h : LR P g tok vs cs) : vs.length = cs.length := by
  induction vs generalizing cs with
  | nil => simp only [LR] at h; simp [h]
  | cons v vs ih => simp only [LR] at h; obtain ⟨c, cs, rfl, _, h⟩ := h; simp [ih h]

theorem LR.get {vs : List V} {cs : List Value} (h : LR P g tok vs cs) {i : Nat} {v : V} (hv : vs[i]? = some v) : ∃ c, cs[i]? = some c ∧ VR P g tok v c := by
  induction vs generalizing cs i with
  | nil => simp at hv
  | cons x vs ih =>
    simp only [LR] at h; obtain ⟨c, cs, rfl, hx, h⟩ := h
    cases i with
    | zero => simp at hv; subst hv; exact ⟨c, by simp, hx⟩
    | succ i => simp at hv; simpa using ih h hv

theorem LR.of_get {vs : List V} {cs : List Value} (hl : vs.length = cs.length) (h : ∀ (i : Nat) (v : V) (c : Value), vs[i]? = some v → cs[i]? = some c → VR P g tok v c) : LR P g tok vs cs := by
  induction vs generalizing cs with
  | nil => cases cs with
    | nil => simp [LR]
    | cons c cs => simp at hl
  | cons v vs ih => cases cs with
    | nil => simp at hl
    | cons c cs =>
      simp only [LR]
      refine ⟨c, cs, rfl, h 0 v c (by simp) (by simp), ih (by simpa using hl) fun i v c hv hc => h (i + 1) v c (by simpa using hv) (by simpa using hc)⟩

theorem LR.append {a b : List V} {x y : List Value} (h : LR P g tok a x) (k : LR P g tok b y) : LR P g tok (a ++ b) (x ++ y) := by
  induction a generalizing x with
  | nil => simp only [LR] at h; subst h; simpa using k
  | cons v vs ih => simp only [LR] at h; obtain ⟨c, cs, rfl, hv, h⟩ := h; simp only [List.cons_append, LR]; exact ⟨c, cs ++ y, rfl, hv, ih h⟩

theorem LR.take {a : List V} {x : List Value} (h : LR P g tok a x) (n : Nat) : LR P g tok (a.take n) (x.take n) :=
  LR.of_get (by simp [h.length]) fun i v c hv hc => by
    rw [List.getElem?_take] at hv hc
    split at hv
    · obtain ⟨c', hc', hr⟩ := h.get hv
      rename_i hlt
      simp only [hlt, if_true] at hc
      rw [hc'] at hc; cases hc; exact hr
    · cases hv

theorem LR.drop {a : List V} {x : List Value} (h : LR P g tok a x) (n : Nat) : LR P g tok (a.drop n) (x.drop n) :=
  LR.of_get (by simp [h.length]) fun i v c hv hc => by
    rw [List.getElem?_drop] at hv hc
    obtain ⟨c', hc', hr⟩ := h.get hv
    rw [hc'] at hc; cases hc; exact hr

theorem CR.get {vs : List V} {B o : Nat} (h : CR P g tok vs B o) {i : Nat} {v : V} (hv : vs[i]? = some v) : ∃ c, g.at B (o + i) = some c ∧ VR P g tok v c := by
  induction vs generalizing o i with
  | nil => simp at hv
  | cons x vs ih =>
    simp only [CR] at h; obtain ⟨hx, h⟩ := h
    cases i with
    | zero => simp at hv; subst hv; simpa using hx
    | succ i => simp at hv; obtain ⟨c, hc, hr⟩ := ih h hv; exact ⟨c, by rw [← hc]; congr 1; omega, hr⟩

theorem CR.of_get {vs : List V} {B o : Nat} (h : ∀ (i : Nat) (v : V), vs[i]? = some v → ∃ c, g.at B (o + i) = some c ∧ VR P g tok v c) : CR P g tok vs B o := by
  induction vs generalizing o with
  | nil => simp [CR]
  | cons v vs ih =>
    simp only [CR]
    refine ⟨by simpa using h 0 v (by simp), ih fun i v hv => ?_⟩
    obtain ⟨c, hc, hr⟩ := h (i + 1) v (by simpa using hv)
    exact ⟨c, by rw [← hc]; congr 1; omega, hr⟩

theorem CR.drop {vs : List V} {B o : Nat} (h : CR P g tok vs B o) (n : Nat) : CR P g tok (vs.drop n) B (o + n) :=
  CR.of_get fun i v hv => by
    rw [List.getElem?_drop] at hv
    obtain ⟨c, hc, hr⟩ := h.get hv
    exact ⟨c, by rw [← hc]; congr 1; omega, hr⟩

theorem CR.take {vs : List V} {B o : Nat} (h : CR P g tok vs B o) (n : Nat) : CR P g tok (vs.take n) B o :=
  CR.of_get fun i v hv => by
    rw [List.getElem?_take] at hv
    split at hv
    · exact h.get hv
    · cases hv

theorem CR.append {a b : List V} {B o : Nat} (h : CR P g tok a B o) (k : CR P g tok b B (o + a.length)) : CR P g tok (a ++ b) B o :=
  CR.of_get fun i v hv => by
    rcases Nat.lt_or_ge i a.length with hi | hi
    · rw [List.getElem?_append_left hi] at hv; exact h.get hv
    · rw [List.getElem?_append_right hi] at hv
      obtain ⟨c, hc, hr⟩ := k.get hv
      exact ⟨c, by rw [← hc]; congr 1; omega, hr⟩
end

-- ---------------------------------------------------------------- what lasts
/-- What is known lasts: cells that never change, blocks, loops, marks (a row may be another one where its mark has moved on). -/
structure Ext (g : G) (tok : Toks) (g' : G) (tok' : Toks) : Prop where
  at_ : ∀ B o v, g.at B o = some v → g'.at B o = some v
  blk : ∀ b, g.own (g.phi b) = .blk b → g'.phi b = g.phi b ∧ g'.own (g.phi b) = .blk b
  lp : ∀ l, g.own (g.lp l) = .lp l → g'.lp l = g.lp l ∧ g'.own (g.lp l) = .lp l
  row : ∀ B ty f t, g.own B = .row ty f t → ∃ f' t', g'.own B = .row ty f' t'
  tok : ∀ t m ty, tok[t]? = some (m, ty) → ∃ m', tok'[t]? = some (m', ty) ∧ m ≤ m' ∧ (m' = m → g'.tk t = g.tk t)
  dfr : ∀ D, g.own D = .dfr → g'.own D = .dfr
  old : ∀ B o, g.own B = .old o → g'.own B = .old o
  io : g'.io = g.io

theorem Ext.refl (g : G) (tok : Toks) : Ext g tok g tok :=
  ⟨fun _ _ _ h => h, fun _ h => ⟨rfl, h⟩, fun _ h => ⟨rfl, h⟩, fun _ _ f t h => ⟨f, t, h⟩, fun _ m _ h => ⟨m, h, Nat.le_refl _, fun _ => rfl⟩, fun _ h => h, fun _ _ h => h, rfl⟩

theorem Ext.trans {g g' g'' : G} {a b c : Toks} (h : Ext g a g' b) (k : Ext g' b g'' c) : Ext g a g'' c where
  at_ := fun B o v x => k.at_ B o v (h.at_ B o v x)
  blk := fun b x => by
    obtain ⟨e, y⟩ := h.blk b x
    have := k.blk b (by rw [e]; exact y)
    rw [e] at this; exact this
  lp := fun b x => by
    obtain ⟨e, y⟩ := h.lp b x
    have := k.lp b (by rw [e]; exact y)
    rw [e] at this; exact this
  row := fun B ty f t x => by obtain ⟨f', t', y⟩ := h.row B ty f t x; exact k.row B ty f' t' y
  tok := fun t m ty x => by
    obtain ⟨m', y, hle, he⟩ := h.tok t m ty x
    obtain ⟨m'', z, hle', he'⟩ := k.tok t m' ty y
    refine ⟨m'', z, by omega, fun e => ?_⟩
    rw [he' (by omega), he (by omega)]
  dfr := fun D x => k.dfr D (h.dfr D x)
  old := fun B o x => k.old B o (h.old B o x)
  io := k.io.trans h.io

section
variable {P : Program} {g g' : G} {tok tok' : Toks}

theorem GrR.mono (e : Ext g tok g' tok') {n : Nat} {gr : Gr} {a : Option Addr} {c : Nat} (h : GrR P g tok n gr a c) : GrR P g' tok' n gr a c := by
  cases gr with
  | tok t k =>
    obtain ⟨m, ty, hm, hle, hf⟩ := h
    obtain ⟨m', hm', hle', hk⟩ := e.tok t m ty hm
    refine ⟨m', ty, hm', by omega, fun he => ?_⟩
    obtain ⟨o, ha, h1, h2, h3⟩ := hf (by omega)
    have := hk (by omega)
    exact ⟨o, by rw [this]; exact ha, h1, by rw [this]; exact h2, by rw [this]; exact h3⟩
  | _ => exact h

mutual
theorem VR.mono (e : Ext g tok g' tok') : ∀ (v : V) (c : Value), VR P g tok v c → VR P g' tok' v c
  | .bool _, _, h | .int _ _, _, h | .str _, _, h | .nilp, _, h | .nilfn, _, h | .nilifc, _, h => by simpa only [VR] using h
  | .junk, _, _ => by simp only [VR]
  | .pblk b o, c, h => by
    simp only [VR] at h ⊢
    obtain ⟨h1, h2⟩ := h
    obtain ⟨e1, e2⟩ := e.blk b h2
    rw [e1]; exact ⟨h1, e2⟩
  | .ms b o n m k, c, h => by
    simp only [VR] at h ⊢
    obtain ⟨h1, h3, h2⟩ := h
    obtain ⟨e1, e2⟩ := e.blk b h2
    rw [e1]; exact ⟨h1, h3, e2⟩
  | .yld l, c, h => by
    simp only [VR] at h ⊢
    obtain ⟨h1, h2⟩ := h
    obtain ⟨e1, e2⟩ := e.lp l h2
    rw [e1]; exact ⟨h1, e2⟩
  | .pimm cs, c, h => by
    simp only [VR] at h ⊢
    obtain ⟨B, o, h1, h2⟩ := h
    exact ⟨B, o, h1, CR.mono e cs B o h2⟩
  | .pby ty cs, c, h => by
    simp only [VR] at h ⊢
    obtain ⟨B, o, f, t, h1, h2, h3⟩ := h
    obtain ⟨f', t', h4⟩ := e.row B ty f t h3
    exact ⟨B, o, f', t', h1, CR.mono e cs B o h2, h4⟩
  | .sl n cs gr, c, h => by
    simp only [VR] at h ⊢
    obtain ⟨a, k, h1, h2, h3, h4⟩ := h
    refine ⟨a, k, h1, ?_, h3, h4.mono e⟩
    rcases h2 with h2 | ⟨B, o, ha, h2⟩
    · exact .inl h2
    · exact .inr ⟨B, o, ha, CR.mono e cs B o h2⟩
  | .fn f caps, c, h => by
    simp only [VR] at h ⊢
    obtain ⟨cvs, h1, h2⟩ := h
    exact ⟨cvs, h1, LR.mono e caps cvs h2⟩
  | .ifc t x, c, h => by
    simp only [VR] at h ⊢
    obtain ⟨y, h1, h2⟩ := h
    exact ⟨y, h1, VR.mono e x y h2⟩
  | .agg cs, c, h => by
    simp only [VR] at h ⊢
    obtain ⟨cvs, h1, h2⟩ := h
    exact ⟨cvs, h1, LR.mono e cs cvs h2⟩
  | .tup cs, c, h => by
    simp only [VR] at h ⊢
    obtain ⟨cvs, h1, h2⟩ := h
    exact ⟨cvs, h1, LR.mono e cs cvs h2⟩
theorem LR.mono (e : Ext g tok g' tok') : ∀ (vs : List V) (cs : List Value), LR P g tok vs cs → LR P g' tok' vs cs
  | [], cs, h => by simpa only [LR] using h
  | v :: vs, cs, h => by
    simp only [LR] at h ⊢
    obtain ⟨c, cs', rfl, h1, h2⟩ := h
    exact ⟨c, cs', rfl, VR.mono e v c h1, LR.mono e vs cs' h2⟩
theorem CR.mono (e : Ext g tok g' tok') : ∀ (vs : List V) (B o : Nat), CR P g tok vs B o → CR P g' tok' vs B o
  | [], _, _, _ => by simp only [CR]
  | v :: vs, B, o, h => by
    simp only [CR] at h ⊢
    obtain ⟨⟨c, hc, h1⟩, h2⟩ := h
    exact ⟨⟨c, e.at_ B o c hc, VR.mono e v c h1⟩, CR.mono e vs B (o + 1) h2⟩
end
end

end Go.Sim

/- The relation between the evaluator's heap and the machine's memory, and what a call may forget at its end. Conditions: none. -/
set_option linter.unusedSimpArgs false
set_option linter.unusedVariables false
namespace Go.Sim

def Tm.has : Tm → Nat → Bool
  | .e, _ => false
  | .n l _ r, i => match i with
    | 0 => true
    | i + 1 => match Nat.mod i 2 with
      | 0 => l.has (Nat.div i 2)
      | _ => r.has (Nat.div i 2)

theorem Tm.get_not_has : ∀ (t : Tm) (i : Nat), t.has i = false → t.get i = .junk
  | .e, _, _ => by simp [Tm.get]
  | .n l v r, 0, h => by simp [Tm.has] at h
  | .n l v r, i + 1, h => by
    simp only [Tm.has, Tm.get] at h ⊢
    generalize Nat.mod i 2 = m at h ⊢
    cases m with
    | zero => exact Tm.get_not_has l _ h
    | succ m => exact Tm.get_not_has r _ h

theorem Tm.has_put : ∀ (t : Tm) (i : Nat) (x : V) (j : Nat), (t.put i x).has j = t.has j
  | .e, _, _, _ => by simp [Tm.put]
  | .n l v r, 0, x, j => by cases j <;> simp [Tm.put, Tm.has]
  | .n l v r, i + 1, x, 0 => by
    simp only [Tm.put]; split <;> simp [Tm.has]
  | .n l v r, i + 1, x, j + 1 => by
    simp only [Tm.put]
    split
    · simp only [Tm.has]; split
      · exact Tm.has_put l _ x _
      · rfl
    · simp only [Tm.has]; split
      · rfl
      · exact Tm.has_put r _ x _

theorem Tm.get_put_same : ∀ (t : Tm) (i : Nat) (x : V), t.has i = true → (t.put i x).get i = x
  | .e, _, _, h => by simp [Tm.has] at h
  | .n l v r, 0, x, _ => by simp [Tm.put, Tm.get]
  | .n l v r, i + 1, x, h => by
    simp only [Tm.has] at h
    simp only [Tm.put]
    cases hm : Nat.mod i 2 with
    | zero => simp only [hm] at h; simp only [Tm.get, hm]; exact Tm.get_put_same l _ x h
    | succ m => simp only [hm] at h; simp only [Tm.get, hm]; exact Tm.get_put_same r _ x h

theorem half_ne {a b : Nat} (hab : a ≠ b) (hm : Nat.mod a 2 = Nat.mod b 2) : Nat.div a 2 ≠ Nat.div b 2 := by
  have h1 : a % 2 = b % 2 := hm
  intro hd
  have h2 : a / 2 = b / 2 := hd
  omega

theorem mod_two (a : Nat) : Nat.mod a 2 = 0 ∨ Nat.mod a 2 = 1 := by
  have : a % 2 = 0 ∨ a % 2 = 1 := by omega
  exact this

theorem Tm.get_put_other : ∀ (t : Tm) (i : Nat) (x : V) (j : Nat), i ≠ j → (t.put i x).get j = t.get j
  | .e, _, _, _, _ => by simp [Tm.put]
  | .n l v r, 0, x, 0, h => absurd rfl h
  | .n l v r, 0, x, j + 1, _ => by simp [Tm.put, Tm.get]
  | .n l v r, i + 1, x, 0, _ => by simp only [Tm.put]; split <;> simp [Tm.get]
  | .n l v r, i + 1, x, j + 1, h => by
    have hij : i ≠ j := fun e => h (by rw [e])
    have key := fun hm => half_ne (a := i) (b := j) hij hm
    simp only [Tm.put]
    rcases mod_two i with hi | hi <;> rcases mod_two j with hj | hj <;> simp only [hi, hj, Tm.get]
    · exact Tm.get_put_other l _ x _ (key (by rw [hi, hj]))
    · exact Tm.get_put_other r _ x _ (key (by rw [hi, hj]))

/-- The temporaries of a frame. -/
def TR (P : Program) (g : G) (tok : Toks) (tm : Tm) (tmps : Array Value) : Prop :=
  ∀ i, tm.has i = true → ∃ c, tmps[i]? = some c ∧ VR P g tok (tm.get i) c

theorem TR.mono {P : Program} {g g' : G} {tok tok' : Toks} {tm : Tm} {tmps : Array Value} (e : Ext g tok g' tok') (h : TR P g tok tm tmps) : TR P g' tok' tm tmps :=
  fun i hi => let ⟨c, hc, hr⟩ := h i hi; ⟨c, hc, VR.mono e _ _ hr⟩

def jumpOf : X → Code
  | .ret => .ret
  | .exit id => .exit id
  | _ => .skip

structure LpR (P : Program) (tab : Tab) (g : G) (tok : Toks) (p : Lp) (lc : Loop) : Prop where
  state : lc.state = if p.ready then .ready else if p.done then .done else .busy
  pend : lc.pending = p.pend.map jumpOf
  pendX : ∀ x, p.pend = some x → x = .ret ∨ ∃ id, x = .exit id
  tm : TR P g tok p.tm lc.tmps
  params : lc.params.toList = p.params
  assign : code P tab lc.assign = p.assign
  body : code P tab lc.body = p.body
  fn : (P.funcs[lc.fn]?).isSome = true

structure R (P : Program) (tab : Tab) (g : G) (h : H) (w : World) : Prop where
  blk : ∀ b ty cs, h.blk[b]? = some (ty, cs) → g.own (g.phi b) = .blk b → ∃ vs : List Value, w.heap[g.phi b]? = some (.cells vs.toArray ty (0, 0)) ∧ LR P g h.tok cs vs
  oOld : ∀ B o, g.own B = .old o → w.heap[B]? = some o
  oBlk : ∀ B b, g.own B = .blk b → b < h.blk.length ∧ g.phi b = B
  oRow : ∀ B ty f t, g.own B = .row ty f t → ∃ arr fz, w.heap[B]? = some (.cells arr ty fz) ∧ ∀ o v, f o = some v → arr[o]? = some v
  oLp : ∀ B l, g.own B = .lp l → l < h.lps.length ∧ g.lp l = B
  oDfr : ∀ B, g.own B = .dfr → w.heap[B]? = some (.deferred (some []))
  fresh : ∀ B, w.heap.size ≤ B → g.own B = .free
  tok : ∀ t m ty, h.tok[t]? = some (m, ty) → m ≤ (g.tk t).cap ∧ ∃ f, g.own (g.tk t).blk = .row ty f (some t) ∧ (∀ j, m * P.cellsOf ty ≤ j → f j = none) ∧
    ∃ arr fz, w.heap[(g.tk t).blk]? = some (.cells arr ty fz) ∧ arr.size = (g.tk t).cap * P.cellsOf ty ∧ fz.2 ≤ m * P.cellsOf ty
  lps : ∀ l p, h.lps[l]? = some p → ∃ lc, g.own (g.lp l) = .lp l ∧ w.heap[g.lp l]? = some (.loop lc) ∧ LpR P tab g h.tok p lc
  io : (w.os, w.output) = g.io.1

section
variable {P : Program} {tab : Tab} {g : G} {h : H} {w : World}

-- ---------------------------------------------------------------- what a value leads to
mutual
theorem VR.brefs (r : R P tab g h w) {tok : Toks} : ∀ (v : V) (c : Value), VR P g tok v c → ∀ b ∈ v.brefs, b < h.blk.length
  | .bool _, _, _, b, hb | .int _ _, _, _, b, hb | .str _, _, _, b, hb | .nilp, _, _, b, hb | .nilfn, _, _, b, hb | .nilifc, _, _, b, hb | .junk, _, _, b, hb | .yld _, _, _, b, hb => by simp [V.brefs] at hb
  | .pblk b' o, c, hv, b, hb => by
    simp only [VR] at hv; simp [V.brefs] at hb; subst hb
    exact (r.oBlk _ _ hv.2).1
  | .ms b' o n m k, c, hv, b, hb => by
    simp only [VR] at hv; simp [V.brefs] at hb; subst hb
    exact (r.oBlk _ _ hv.2.2).1
  | .pimm cs, c, hv, b, hb => by
    simp only [VR] at hv; simp only [V.brefs] at hb
    obtain ⟨B, o, _, h2⟩ := hv
    exact CR.brefs r cs B o h2 b hb
  | .pby ty cs, c, hv, b, hb => by
    simp only [VR] at hv; simp only [V.brefs] at hb
    obtain ⟨B, o, _, _, _, h2, _⟩ := hv
    exact CR.brefs r cs B o h2 b hb
  | .sl n cs gr, c, hv, b, hb => by
    simp only [VR] at hv; simp only [V.brefs] at hb
    obtain ⟨a, k, _, h2, _⟩ := hv
    rcases h2 with rfl | ⟨B, o, _, h2⟩
    · simp [V.brefsL] at hb
    · exact CR.brefs r cs B o h2 b hb
  | .fn f cs, c, hv, b, hb => by
    simp only [VR] at hv; simp only [V.brefs] at hb
    obtain ⟨cvs, _, h2⟩ := hv
    exact LR.brefs r cs cvs h2 b hb
  | .ifc t x, c, hv, b, hb => by
    simp only [VR] at hv; simp only [V.brefs] at hb
    obtain ⟨y, _, h2⟩ := hv
    exact VR.brefs r x y h2 b hb
  | .agg cs, c, hv, b, hb => by
    simp only [VR] at hv; simp only [V.brefs] at hb
    obtain ⟨cvs, _, h2⟩ := hv
    exact LR.brefs r cs cvs h2 b hb
  | .tup cs, c, hv, b, hb => by
    simp only [VR] at hv; simp only [V.brefs] at hb
    obtain ⟨cvs, _, h2⟩ := hv
    exact LR.brefs r cs cvs h2 b hb
theorem LR.brefs (r : R P tab g h w) {tok : Toks} : ∀ (vs : List V) (cs : List Value), LR P g tok vs cs → ∀ b ∈ V.brefsL vs, b < h.blk.length
  | [], _, _, b, hb => by simp [V.brefsL] at hb
  | v :: vs, cs, hv, b, hb => by
    simp only [LR] at hv; simp only [V.brefsL, List.mem_append] at hb
    obtain ⟨c, cs', _, h1, h2⟩ := hv
    rcases hb with hb | hb
    · exact VR.brefs r v c h1 b hb
    · exact LR.brefs r vs cs' h2 b hb
theorem CR.brefs (r : R P tab g h w) {tok : Toks} : ∀ (vs : List V) (B o : Nat), CR P g tok vs B o → ∀ b ∈ V.brefsL vs, b < h.blk.length
  | [], _, _, _, b, hb => by simp [V.brefsL] at hb
  | v :: vs, B, o, hv, b, hb => by
    simp only [CR] at hv; simp only [V.brefsL, List.mem_append] at hb
    obtain ⟨⟨c, _, h1⟩, h2⟩ := hv
    rcases hb with hb | hb
    · exact VR.brefs r v c h1 b hb
    · exact CR.brefs r vs B (o + 1) h2 b hb
end

mutual
theorem VR.yrefs (r : R P tab g h w) {tok : Toks} : ∀ (v : V) (c : Value), VR P g tok v c → ∀ b ∈ v.yrefs, b < h.lps.length
  | .bool _, _, _, b, hb | .int _ _, _, _, b, hb | .str _, _, _, b, hb | .nilp, _, _, b, hb | .nilfn, _, _, b, hb | .nilifc, _, _, b, hb | .junk, _, _, b, hb | .pblk _ _, _, _, b, hb | .ms _ _ _ _ _, _, _, b, hb => by simp [V.yrefs] at hb
  | .yld l, c, hv, b, hb => by
    simp only [VR] at hv; simp [V.yrefs] at hb; subst hb
    exact (r.oLp _ _ hv.2).1
  | .pimm cs, c, hv, b, hb => by
    simp only [VR] at hv; simp only [V.yrefs] at hb
    obtain ⟨B, o, _, h2⟩ := hv
    exact CR.yrefs r cs B o h2 b hb
  | .pby ty cs, c, hv, b, hb => by
    simp only [VR] at hv; simp only [V.yrefs] at hb
    obtain ⟨B, o, _, _, _, h2, _⟩ := hv
    exact CR.yrefs r cs B o h2 b hb
  | .sl n cs gr, c, hv, b, hb => by
    simp only [VR] at hv; simp only [V.yrefs] at hb
    obtain ⟨a, k, _, h2, _⟩ := hv
    rcases h2 with rfl | ⟨B, o, _, h2⟩
    · simp [V.yrefsL] at hb
    · exact CR.yrefs r cs B o h2 b hb
  | .fn f cs, c, hv, b, hb => by
    simp only [VR] at hv; simp only [V.yrefs] at hb
    obtain ⟨cvs, _, h2⟩ := hv
    exact LR.yrefs r cs cvs h2 b hb
  | .ifc t x, c, hv, b, hb => by
    simp only [VR] at hv; simp only [V.yrefs] at hb
    obtain ⟨y, _, h2⟩ := hv
    exact VR.yrefs r x y h2 b hb
  | .agg cs, c, hv, b, hb => by
    simp only [VR] at hv; simp only [V.yrefs] at hb
    obtain ⟨cvs, _, h2⟩ := hv
    exact LR.yrefs r cs cvs h2 b hb
  | .tup cs, c, hv, b, hb => by
    simp only [VR] at hv; simp only [V.yrefs] at hb
    obtain ⟨cvs, _, h2⟩ := hv
    exact LR.yrefs r cs cvs h2 b hb
theorem LR.yrefs (r : R P tab g h w) {tok : Toks} : ∀ (vs : List V) (cs : List Value), LR P g tok vs cs → ∀ b ∈ V.yrefsL vs, b < h.lps.length
  | [], _, _, b, hb => by simp [V.yrefsL] at hb
  | v :: vs, cs, hv, b, hb => by
    simp only [LR] at hv; simp only [V.yrefsL, List.mem_append] at hb
    obtain ⟨c, cs', _, h1, h2⟩ := hv
    rcases hb with hb | hb
    · exact VR.yrefs r v c h1 b hb
    · exact LR.yrefs r vs cs' h2 b hb
theorem CR.yrefs (r : R P tab g h w) {tok : Toks} : ∀ (vs : List V) (B o : Nat), CR P g tok vs B o → ∀ b ∈ V.yrefsL vs, b < h.lps.length
  | [], _, _, _, b, hb => by simp [V.yrefsL] at hb
  | v :: vs, B, o, hv, b, hb => by
    simp only [CR] at hv; simp only [V.yrefsL, List.mem_append] at hb
    obtain ⟨⟨c, _, h1⟩, h2⟩ := hv
    rcases hb with hb | hb
    · exact VR.yrefs r v c h1 b hb
    · exact CR.yrefs r vs B (o + 1) h2 b hb
end

mutual
theorem VR.trefs {tok : Toks} : ∀ (v : V) (c : Value), VR P g tok v c → ∀ b ∈ v.trefs, b < tok.length
  | .bool _, _, _, b, hb | .int _ _, _, _, b, hb | .str _, _, _, b, hb | .nilp, _, _, b, hb | .nilfn, _, _, b, hb | .nilifc, _, _, b, hb | .junk, _, _, b, hb | .pblk _ _, _, _, b, hb | .ms _ _ _ _ _, _, _, b, hb | .yld _, _, _, b, hb => by simp [V.trefs] at hb
  | .pimm cs, c, hv, b, hb => by
    simp only [VR] at hv; simp only [V.trefs] at hb
    obtain ⟨B, o, _, h2⟩ := hv
    exact CR.trefs cs B o h2 b hb
  | .pby ty cs, c, hv, b, hb => by
    simp only [VR] at hv; simp only [V.trefs] at hb
    obtain ⟨B, o, _, _, _, h2, _⟩ := hv
    exact CR.trefs cs B o h2 b hb
  | .sl n cs gr, c, hv, b, hb => by
    simp only [VR] at hv; simp only [V.trefs, List.mem_append] at hb
    obtain ⟨a, k, _, h2, _, h4⟩ := hv
    rcases hb with hb | hb
    · cases gr with
      | tok t e =>
        simp at hb; subst hb
        obtain ⟨m, ty, hm, _⟩ := h4
        exact (List.getElem?_eq_some_iff.1 hm).1
      | _ => simp at hb
    · rcases h2 with rfl | ⟨B, o, _, h2⟩
      · simp [V.trefsL] at hb
      · exact CR.trefs cs B o h2 b hb
  | .fn f cs, c, hv, b, hb => by
    simp only [VR] at hv; simp only [V.trefs] at hb
    obtain ⟨cvs, _, h2⟩ := hv
    exact LR.trefs cs cvs h2 b hb
  | .ifc t x, c, hv, b, hb => by
    simp only [VR] at hv; simp only [V.trefs] at hb
    obtain ⟨y, _, h2⟩ := hv
    exact VR.trefs x y h2 b hb
  | .agg cs, c, hv, b, hb => by
    simp only [VR] at hv; simp only [V.trefs] at hb
    obtain ⟨cvs, _, h2⟩ := hv
    exact LR.trefs cs cvs h2 b hb
  | .tup cs, c, hv, b, hb => by
    simp only [VR] at hv; simp only [V.trefs] at hb
    obtain ⟨cvs, _, h2⟩ := hv
    exact LR.trefs cs cvs h2 b hb
theorem LR.trefs {tok : Toks} : ∀ (vs : List V) (cs : List Value), LR P g tok vs cs → ∀ b ∈ V.trefsL vs, b < tok.length
  | [], _, _, b, hb => by simp [V.trefsL] at hb
  | v :: vs, cs, hv, b, hb => by
    simp only [LR] at hv; simp only [V.trefsL, List.mem_append] at hb
    obtain ⟨c, cs', _, h1, h2⟩ := hv
    rcases hb with hb | hb
    · exact VR.trefs v c h1 b hb
    · exact LR.trefs vs cs' h2 b hb
theorem CR.trefs {tok : Toks} : ∀ (vs : List V) (B o : Nat), CR P g tok vs B o → ∀ b ∈ V.trefsL vs, b < tok.length
  | [], _, _, _, b, hb => by simp [V.trefsL] at hb
  | v :: vs, B, o, hv, b, hb => by
    simp only [CR] at hv; simp only [V.trefsL, List.mem_append] at hb
    obtain ⟨⟨c, _, h1⟩, h2⟩ := hv
    rcases hb with hb | hb
    · exact VR.trefs v c h1 b hb
    · exact CR.trefs vs B (o + 1) h2 b hb
end
end

-- ---------------------------------------------------------------- forgetting
/-- Blocks from n0 on become rows that never change, loops from l0 on nothing. -/
def G.trunc (g : G) (n0 l0 : Nat) (w : World) : G :=
  { g with own := fun B => match g.own B with
    | .blk b => if b < n0 then .blk b else match w.heap[B]? with
      | some (.cells arr ty _) => .row ty (fun o => arr[o]?) none
      | _ => .free
    | .lp l => if l < l0 then .lp l else .free
    | x => x }

theorem G.trunc_at {g : G} {n0 l0 : Nat} {w : World} {B o : Nat} {v : Value} (h : g.at B o = some v) : (g.trunc n0 l0 w).at B o = some v := by
  unfold G.at G.trunc at *
  cases hg : g.own B <;> simp [hg] at h ⊢ <;> exact h

/-- A value that leads to nothing from the bounds on. -/
def V.closed (n m l : Nat) (v : V) : Prop := (∀ b ∈ v.brefs, b < n) ∧ (∀ t ∈ v.trefs, t < m) ∧ (∀ y ∈ v.yrefs, y < l)
def V.closedL (n m l : Nat) (vs : List V) : Prop := (∀ b ∈ V.brefsL vs, b < n) ∧ (∀ t ∈ V.trefsL vs, t < m) ∧ (∀ y ∈ V.yrefsL vs, y < l)

theorem V.closedL_cons {n m l : Nat} {v : V} {vs : List V} : V.closedL n m l (v :: vs) ↔ V.closed n m l v ∧ V.closedL n m l vs := by
  simp only [V.closedL, V.closed, V.brefsL, V.trefsL, V.yrefsL, List.mem_append]
  constructor
  · rintro ⟨a, b, c⟩
    exact ⟨⟨fun x hx => a x (.inl hx), fun x hx => b x (.inl hx), fun x hx => c x (.inl hx)⟩, fun x hx => a x (.inr hx), fun x hx => b x (.inr hx), fun x hx => c x (.inr hx)⟩
  · rintro ⟨⟨a, b, c⟩, a', b', c'⟩
    exact ⟨fun x hx => hx.elim (a x) (a' x), fun x hx => hx.elim (b x) (b' x), fun x hx => hx.elim (c x) (c' x)⟩

section
variable {P : Program} {g : G} {n0 m0 l0 : Nat} {w : World} {tok tok' : Toks}

mutual
theorem VR.trunc (ht : ∀ t, t < m0 → tok'[t]? = tok[t]?) : ∀ (v : V) (c : Value), VR P g tok v c → v.closed n0 m0 l0 → VR P (g.trunc n0 l0 w) tok' v c
  | .bool _, _, h, _ | .int _ _, _, h, _ | .str _, _, h, _ | .nilp, _, h, _ | .nilfn, _, h, _ | .nilifc, _, h, _ => by simpa only [VR] using h
  | .junk, _, _, _ => by simp only [VR]
  | .pblk b o, c, h, k => by
    simp only [VR] at h ⊢
    have hb : b < n0 := k.1 b (by simp [V.brefs])
    refine ⟨h.1, ?_⟩
    simp only [G.trunc, h.2, hb, if_true]
  | .ms b o n m' e, c, h, k => by
    simp only [VR] at h ⊢
    have hb : b < n0 := k.1 b (by simp [V.brefs])
    refine ⟨h.1, h.2.1, ?_⟩
    simp only [G.trunc, h.2.2, hb, if_true]
  | .yld l, c, h, k => by
    simp only [VR] at h ⊢
    have hb : l < l0 := k.2.2 l (by simp [V.yrefs])
    refine ⟨h.1, ?_⟩
    simp only [G.trunc, h.2, hb, if_true]
  | .pimm cs, c, h, k => by
    simp only [VR] at h ⊢
    obtain ⟨B, o, h1, h2⟩ := h
    exact ⟨B, o, h1, CR.trunc ht cs B o h2 ⟨by simpa [V.brefs] using k.1, by simpa [V.trefs] using k.2.1, by simpa [V.yrefs] using k.2.2⟩⟩
  | .pby ty cs, c, h, k => by
    simp only [VR] at h ⊢
    obtain ⟨B, o, f, t, h1, h2, h3⟩ := h
    exact ⟨B, o, f, t, h1, CR.trunc ht cs B o h2 ⟨by simpa [V.brefs] using k.1, by simpa [V.trefs] using k.2.1, by simpa [V.yrefs] using k.2.2⟩, by simp only [G.trunc, h3]⟩
  | .sl n cs gr, c, h, k => by
    simp only [VR] at h ⊢
    obtain ⟨a, cp, h1, h2, h3, h4⟩ := h
    have kt := k.2.1; simp only [V.trefs, List.mem_append] at kt
    refine ⟨a, cp, h1, ?_, h3, ?_⟩
    · rcases h2 with h2 | ⟨B, o, ha, h2⟩
      · exact .inl h2
      · exact .inr ⟨B, o, ha, CR.trunc ht cs B o h2 ⟨by simpa [V.brefs] using k.1, fun t hx => kt t (.inr hx), by simpa [V.yrefs] using k.2.2⟩⟩
    · cases gr with
      | tok t e =>
        obtain ⟨m, ty, hm, hle, hf⟩ := h4
        exact ⟨m, ty, by rw [ht t (kt t (.inl (by simp)))]; exact hm, hle, hf⟩
      | _ => exact h4
  | .fn f cs, c, h, k => by
    simp only [VR] at h ⊢
    obtain ⟨cvs, h1, h2⟩ := h
    exact ⟨cvs, h1, LR.trunc ht cs cvs h2 ⟨by simpa [V.brefs] using k.1, by simpa [V.trefs] using k.2.1, by simpa [V.yrefs] using k.2.2⟩⟩
  | .ifc t x, c, h, k => by
    simp only [VR] at h ⊢
    obtain ⟨y, h1, h2⟩ := h
    exact ⟨y, h1, VR.trunc ht x y h2 ⟨by simpa [V.brefs] using k.1, by simpa [V.trefs] using k.2.1, by simpa [V.yrefs] using k.2.2⟩⟩
  | .agg cs, c, h, k => by
    simp only [VR] at h ⊢
    obtain ⟨cvs, h1, h2⟩ := h
    exact ⟨cvs, h1, LR.trunc ht cs cvs h2 ⟨by simpa [V.brefs] using k.1, by simpa [V.trefs] using k.2.1, by simpa [V.yrefs] using k.2.2⟩⟩
  | .tup cs, c, h, k => by
    simp only [VR] at h ⊢
    obtain ⟨cvs, h1, h2⟩ := h
    exact ⟨cvs, h1, LR.trunc ht cs cvs h2 ⟨by simpa [V.brefs] using k.1, by simpa [V.trefs] using k.2.1, by simpa [V.yrefs] using k.2.2⟩⟩
theorem LR.trunc (ht : ∀ t, t < m0 → tok'[t]? = tok[t]?) : ∀ (vs : List V) (cs : List Value), LR P g tok vs cs → V.closedL n0 m0 l0 vs → LR P (g.trunc n0 l0 w) tok' vs cs
  | [], _, h, _ => by simpa only [LR] using h
  | v :: vs, cs, h, k => by
    simp only [LR] at h ⊢
    obtain ⟨c, cs', rfl, h1, h2⟩ := h
    rw [V.closedL_cons] at k
    exact ⟨c, cs', rfl, VR.trunc ht v c h1 k.1, LR.trunc ht vs cs' h2 k.2⟩
theorem CR.trunc (ht : ∀ t, t < m0 → tok'[t]? = tok[t]?) : ∀ (vs : List V) (B o : Nat), CR P g tok vs B o → V.closedL n0 m0 l0 vs → CR P (g.trunc n0 l0 w) tok' vs B o
  | [], _, _, _, _ => by simp only [CR]
  | v :: vs, B, o, h, k => by
    simp only [CR] at h ⊢
    obtain ⟨⟨c, hc, h1⟩, h2⟩ := h
    rw [V.closedL_cons] at k
    exact ⟨⟨c, G.trunc_at hc, VR.trunc ht v c h1 k.1⟩, CR.trunc ht vs B (o + 1) h2 k.2⟩
end
end

end Go.Sim

/- What a call leaves as it was, and its end. Conditions: none. -/
set_option linter.unusedSimpArgs false
set_option linter.unusedVariables false
namespace Go.Sim

/-- What of a loop never changes. -/
def Lp.core (p : Lp) : Tm × List Nat × C × C := (p.tm, p.params, p.assign, p.body)

/-- What a piece of a run keeps: what was known; the blocks below n0, but for cells that are told; the loops. -/
structure Keeps (n0 : Nat) (g : G) (h : H) (g' : G) (h' : H) (es et : Es) : Prop where
  ext : Ext g h.tok g' h'.tok
  len : h.blk.length ≤ h'.blk.length
  back : ∀ b, b < h.blk.length → g'.own (g'.phi b) = .blk b → g.own (g.phi b) = .blk b
  blk : ∀ b ty cs', b < n0 → h'.blk[b]? = some (ty, cs') → ∃ cs, h.blk[b]? = some (ty, cs) ∧
    ∀ (i : Nat) (c' : V), cs'[i]? = some c' → cs[i]? = some c' ∨ (c'.yrefs = [] ∧ (∀ r ∈ c'.brefs, b < r → (b, r) ∈ es) ∧ ∀ t ∈ c'.trefs, (b, t) ∈ et)
  lpl : h'.lps.length = h.lps.length
  lps : ∀ (l : Nat) (p' : Lp), h'.lps[l]? = some p' → ∃ p : Lp, h.lps[l]? = some p ∧ p'.core = p.core

theorem Keeps.refl (n0 : Nat) (g : G) (h : H) : Keeps n0 g h g h [] [] :=
  ⟨Ext.refl _ _, Nat.le_refl _, fun _ _ h => h, fun _ _ cs' _ h => ⟨cs', h, fun _ _ hc => .inl hc⟩, rfl, fun _ p h => ⟨p, h, rfl⟩⟩

theorem Keeps.trans {n0 : Nat} {g g1 g2 : G} {h h1 h2 : H} {es et es' et' : Es} (a : Keeps n0 g h g1 h1 es et) (b : Keeps n0 g1 h1 g2 h2 es' et') :
    Keeps n0 g h g2 h2 (es' ++ es) (et' ++ et) where
  ext := a.ext.trans b.ext
  len := Nat.le_trans a.len b.len
  back := fun x hx hb => a.back x hx (b.back x (Nat.lt_of_lt_of_le hx a.len) hb)
  blk := fun x ty cs2 hx h2 => by
    obtain ⟨cs1, h1, k1⟩ := b.blk x ty cs2 hx h2
    obtain ⟨cs, h0, k0⟩ := a.blk x ty cs1 hx h1
    refine ⟨cs, h0, fun i c hc => ?_⟩
    rcases k1 i c hc with hc | ⟨e1, e2, e3⟩
    · rcases k0 i c hc with hc | ⟨e1, e2, e3⟩
      · exact .inl hc
      · exact .inr ⟨e1, fun r hr hl => List.mem_append_right _ (e2 r hr hl), fun t ht => List.mem_append_right _ (e3 t ht)⟩
    · exact .inr ⟨e1, fun r hr hl => List.mem_append_left _ (e2 r hr hl), fun t ht => List.mem_append_left _ (e3 t ht)⟩
  lpl := by rw [b.lpl, a.lpl]
  lps := fun l p' hp => by
    obtain ⟨p1, h1, e1⟩ := b.lps l p' hp
    obtain ⟨p, h0, e0⟩ := a.lps l p1 h1
    exact ⟨p, h0, by rw [e1, e0]⟩

/-- A callee's base lies at or above its caller's. -/
theorem Keeps.down {n0 n1 : Nat} {g g' : G} {h h' : H} {es et : Es} (a : Keeps n1 g h g' h' es et) (hn : n0 ≤ n1) :
    Keeps n0 g h g' h' (es.filter (·.1 < n0)) (et.filter (·.1 < n0)) where
  ext := a.ext
  len := a.len
  back := a.back
  blk := fun x ty cs2 hx h2 => by
    obtain ⟨cs, h0, k0⟩ := a.blk x ty cs2 (by omega) h2
    refine ⟨cs, h0, fun i c hc => ?_⟩
    rcases k0 i c hc with hc | ⟨e1, e2, e3⟩
    · exact .inl hc
    · exact .inr ⟨e1, fun r hr hl => List.mem_filter.2 ⟨e2 r hr hl, by simpa using hx⟩, fun t ht => List.mem_filter.2 ⟨e3 t ht, by simpa using hx⟩⟩
  lpl := a.lpl
  lps := a.lps

section
variable {P : Program} {tab : Tab} {g : G} {h : H} {w : World}

theorem VR.weaken {tok : Toks} {n : Nat} {cs : List V} {gr : Gr} {c : Value} (hv : VR P g tok (.sl n cs gr) c) : VR P g tok (.sl n cs .none) c := by
  simp only [VR] at hv ⊢
  obtain ⟨a, k, h1, h2, h3, _⟩ := hv
  exact ⟨a, k, h1, h2, h3, trivial⟩

/-- The memory behind what is forgotten. -/
theorem R.trunc {n0 m0 l0 : Nat} {tok' : Toks} (r : R P tab g h w) (hl : l0 ≤ h.lps.length) (hn : n0 ≤ h.blk.length)
    (ht : ∀ t, t < m0 → tok'[t]? = h.tok[t]?) (ht' : ∀ (t : Nat) (x : Nat × Nat), tok'[t]? = some x → h.tok[t]? = some x)
    (hc : ∀ (b ty : Nat) (cs : List V), b < n0 → g.own (g.phi b) = .blk b → h.blk[b]? = some (ty, cs) → V.closedL n0 m0 l0 cs)
    (hp : ∀ (l : Nat) (p : Lp), l < l0 → h.lps[l]? = some p → ∀ i, (p.tm.get i).closed n0 m0 l0) :
    R P tab (g.trunc n0 l0 w) { blk := h.blk.take n0, tok := tok', lps := h.lps.take l0 } w where
  blk := fun b ty cs hb ho => by
    simp only [List.getElem?_take] at hb
    split at hb
    · rename_i hlt
      have ho' : g.own (g.phi b) = .blk b := by
        simp only [G.trunc] at ho
        split at ho
        · rename_i b' hb'
          split at ho
          · cases ho; exact hb'
          · split at ho <;> cases ho
        · split at ho <;> cases ho
        · rename_i h1 h2; rw [ho] at h1; exact absurd rfl (h1 b)
      obtain ⟨vs, hw, hr⟩ := r.blk b ty cs hb ho'
      exact ⟨vs, hw, LR.trunc ht cs vs hr (hc b ty cs hlt ho' hb)⟩
    · cases hb
  oOld := fun B o ho => r.oOld B o (by
    simp only [G.trunc] at ho
    split at ho
    · split at ho
      · cases ho
      · split at ho <;> cases ho
    · split at ho <;> cases ho
    · exact ho)
  oBlk := fun B b ho => by
    simp only [G.trunc] at ho
    split at ho
    · rename_i b' hb'
      split at ho
      · rename_i hlt
        cases ho
        have := (r.oBlk B _ hb').1
        exact ⟨by simp only [List.length_take]; omega, (r.oBlk B _ hb').2⟩
      · split at ho <;> cases ho
    · split at ho <;> cases ho
    · rename_i h1 h2; rw [ho] at h1; exact absurd rfl (h1 b)
  oRow := fun B ty f t ho => by
    simp only [G.trunc] at ho
    split at ho
    · split at ho
      · cases ho
      · split at ho
        · rename_i arr ty' fz hw
          cases ho
          exact ⟨arr, fz, hw, fun o v hv => hv⟩
        · cases ho
    · split at ho <;> cases ho
    · exact r.oRow B ty f t ho
  oLp := fun B l ho => by
    simp only [G.trunc] at ho
    split at ho
    · split at ho
      · cases ho
      · split at ho <;> cases ho
    · rename_i l' hl'
      split at ho
      · rename_i hlt
        cases ho
        have := (r.oLp B _ hl').1
        exact ⟨by simp only [List.length_take]; omega, (r.oLp B _ hl').2⟩
      · cases ho
    · rename_i h1 h2; rw [ho] at h2; exact absurd rfl (h2 l)
  oDfr := fun B ho => r.oDfr B (by
    simp only [G.trunc] at ho
    split at ho
    · split at ho
      · cases ho
      · split at ho <;> cases ho
    · split at ho <;> cases ho
    · exact ho)
  fresh := fun B hB => by
    have := r.fresh B hB
    simp only [G.trunc, this]
  tok := fun t m ty hm => by
    obtain ⟨h1, f, h2, h3, h4⟩ := r.tok t m ty (ht' t _ hm)
    exact ⟨h1, f, by simp only [G.trunc, h2], h3, h4⟩
  lps := fun l p hp' => by
    simp only [List.getElem?_take] at hp'
    split at hp'
    · rename_i hlt
      obtain ⟨lc, h1, h2, h3⟩ := r.lps l p hp'
      refine ⟨lc, by simp only [G.trunc, h1, hlt, if_true], h2, h3.state, h3.pend, h3.pendX, fun i hi => ?_, h3.params, h3.assign, h3.body, h3.fn⟩
      obtain ⟨c, hc', hr⟩ := h3.tm i hi
      exact ⟨c, hc', VR.trunc ht _ _ hr (hp l p hlt hp' i)⟩
    · cases hp'
  io := r.io

/-- What was known ahead of a call is known when its own is forgotten. -/
theorem Ext.trunc {g0 : G} {h0 : H} {w0 : World} {n0 l0 : Nat} {tok tok' : Toks} (r0 : R P tab g0 h0 w0) (e : Ext g0 h0.tok g tok) (hn : h0.blk.length ≤ n0) (hl : h0.lps.length ≤ l0)
    (ht : ∀ t, t < h0.tok.length → tok'[t]? = tok[t]?) : Ext g0 h0.tok (g.trunc n0 l0 w) tok' where
  at_ := fun B o v x => G.trunc_at (e.at_ B o v x)
  blk := fun b x => by
    obtain ⟨h1, h2⟩ := e.blk b x
    have hb : b < n0 := by have := (r0.oBlk _ b x).1; omega
    exact ⟨h1, by simp only [G.trunc, h2, hb, if_true]⟩
  lp := fun b x => by
    obtain ⟨h1, h2⟩ := e.lp b x
    have hb : b < l0 := by have := (r0.oLp _ b x).1; omega
    exact ⟨h1, by simp only [G.trunc, h2, hb, if_true]⟩
  row := fun B ty f t x => by
    obtain ⟨f', t', h1⟩ := e.row B ty f t x
    exact ⟨f', t', by simp only [G.trunc, h1]⟩
  tok := fun t m ty x => by
    obtain ⟨m', h1, h2, h3⟩ := e.tok t m ty x
    exact ⟨m', by rw [ht t (List.getElem?_eq_some_iff.1 x).1]; exact h1, h2, h3⟩
  dfr := fun D x => by simp only [G.trunc, e.dfr D x]
  old := fun B o x => by simp only [G.trunc, e.old B o x]
  io := e.io

theorem closed_of {tok : Toks} (r : R P tab g h w) {v : V} {c : Value} (hv : VR P g tok v c) : v.closed h.blk.length tok.length h.lps.length :=
  ⟨VR.brefs r v c hv, VR.trefs v c hv, VR.yrefs r v c hv⟩

theorem V.closed.mono {n n' m m' l l' : Nat} {v : V} (h : v.closed n m l) (hn : n ≤ n') (hm : m ≤ m') (hl : l ≤ l') : v.closed n' m' l' :=
  ⟨fun b hb => by have := h.1 b hb; omega, fun b hb => by have := h.2.1 b hb; omega, fun b hb => by have := h.2.2 b hb; omega⟩

theorem closed_junk (n m l : Nat) : V.closed n m l .junk := ⟨by simp [V.brefs], by simp [V.trefs], by simp [V.yrefs]⟩

theorem V.closedL_of {n m l : Nat} {cs : List V} (h : ∀ (i : Nat) (c : V), cs[i]? = some c → c.closed n m l) : V.closedL n m l cs := by
  induction cs with
  | nil => exact ⟨by simp [V.brefsL], by simp [V.trefsL], by simp [V.yrefsL]⟩
  | cons c cs ih => exact V.closedL_cons.2 ⟨h 0 c (by simp), ih fun i c hc => h (i + 1) c (by simpa using hc)⟩

theorem V.closedL_get {n m l : Nat} {cs : List V} (h : V.closedL n m l cs) {i : Nat} {c : V} (hc : cs[i]? = some c) : c.closed n m l := by
  induction cs generalizing i with
  | nil => simp at hc
  | cons x cs ih =>
    rw [V.closedL_cons] at h
    cases i with
    | zero => simp at hc; subst hc; exact h.1
    | succ i => exact ih h.2 (by simpa using hc)

theorem yrefsL_nil {cs : List V} (h : V.yrefsL cs = []) {i : Nat} {c : V} (hc : cs[i]? = some c) : c.yrefs = [] := by
  induction cs generalizing i with
  | nil => simp at hc
  | cons x cs ih =>
    simp only [V.yrefsL, List.append_eq_nil_iff] at h
    cases i with
    | zero => simp at hc; subst hc; exact h.1
    | succ i => exact ih h.2 (by simpa using hc)

theorem mem_brefsL {cs : List V} {i : Nat} {c : V} (hc : cs[i]? = some c) {b : Nat} (hb : b ∈ c.brefs) : b ∈ V.brefsL cs := by
  induction cs generalizing i with
  | nil => simp at hc
  | cons x cs ih =>
    simp only [V.brefsL, List.mem_append]
    cases i with
    | zero => simp at hc; subst hc; exact .inl hb
    | succ i => exact .inr (ih (by simpa using hc))

theorem mem_trefsL {cs : List V} {i : Nat} {c : V} (hc : cs[i]? = some c) {b : Nat} (hb : b ∈ c.trefs) : b ∈ V.trefsL cs := by
  induction cs generalizing i with
  | nil => simp at hc
  | cons x cs ih =>
    simp only [V.trefsL, List.mem_append]
    cases i with
    | zero => simp at hc; subst hc; exact .inl hb
    | succ i => exact .inr (ih (by simpa using hc))

/-- A result, slices over the call's own blocks read off. -/
theorem norm_ok {n0 m0 l0 : Nat} {tok' : Toks} (r : R P tab g h w) (ht : ∀ t, t < m0 → tok'[t]? = h.tok[t]?) :
    ∀ (k : Nat) (v : V) (c : Value), VR P g h.tok v c → (V.norm h n0 k v).closed n0 m0 l0 → VR P (g.trunc n0 l0 w) tok' (V.norm h n0 k v) c := by
  intro k
  induction k with
  | zero => intro v c hv hc; exact VR.trunc ht _ _ hv (by simpa [V.norm] using hc)
  | succ k ih =>
    have list : ∀ (cs : List V) (vs : List Value), LR P g h.tok cs vs → V.closedL n0 m0 l0 (cs.map (V.norm h n0 k)) → LR P (g.trunc n0 l0 w) tok' (cs.map (V.norm h n0 k)) vs := by
      intro cs
      induction cs with
      | nil => intro vs hl _; simpa only [LR, List.map_nil] using hl
      | cons v cs ihl =>
        intro vs hl hc
        simp only [LR, List.map_cons] at hl hc ⊢
        obtain ⟨c, cs', rfl, h1, h2⟩ := hl
        rw [V.closedL_cons] at hc
        exact ⟨c, cs', rfl, ih v c h1 hc.1, ihl cs' h2 hc.2⟩
    intro v c hv hc
    cases v with
    | sl n cs gr => simp only [V.norm] at hc ⊢; exact VR.trunc ht _ _ hv.weaken hc
    | agg cs =>
      simp only [V.norm] at hc ⊢
      simp only [VR] at hv ⊢
      obtain ⟨cvs, h1, h2⟩ := hv
      exact ⟨cvs, h1, list cs cvs h2 ⟨by simpa [V.brefs] using hc.1, by simpa [V.trefs] using hc.2.1, by simpa [V.yrefs] using hc.2.2⟩⟩
    | tup cs =>
      simp only [V.norm] at hc ⊢
      simp only [VR] at hv ⊢
      obtain ⟨cvs, h1, h2⟩ := hv
      exact ⟨cvs, h1, list cs cvs h2 ⟨by simpa [V.brefs] using hc.1, by simpa [V.trefs] using hc.2.1, by simpa [V.yrefs] using hc.2.2⟩⟩
    | ifc t x =>
      simp only [V.norm] at hc ⊢
      simp only [VR] at hv ⊢
      obtain ⟨y, h1, h2⟩ := hv
      exact ⟨y, h1, ih x y h2 ⟨by simpa [V.brefs] using hc.1, by simpa [V.trefs] using hc.2.1, by simpa [V.yrefs] using hc.2.2⟩⟩
    | ms b o n cp e =>
      simp only [V.norm] at hc ⊢
      split at hc
      · rename_i hlt; simp only [hlt, if_true]; exact VR.trunc ht _ _ hv hc
      · rename_i hge
        simp only [hge, if_false]
        simp only [VR] at hv ⊢
        obtain ⟨h1, h2, h3⟩ := hv
        refine ⟨_, cp, h1, .inr ⟨g.phi b, o, rfl, ?_⟩, ⟨h2, by simp⟩, trivial⟩
        have hb := (r.oBlk _ b h3).1
        obtain ⟨⟨ty, cs⟩, hcs⟩ : ∃ x, h.blk[b]? = some x := ⟨_, List.getElem?_eq_getElem hb⟩
        obtain ⟨vs, hw, hr⟩ := r.blk b ty cs hcs h3
        have hgd : h.blk.getD b (0, []) = (ty, cs) := by simp [List.getD, hcs]
        rw [hgd] at hc ⊢
        refine CR.of_get fun i v hv => ?_
        simp only [List.getElem?_map, Option.map_eq_some_iff] at hv
        obtain ⟨u, hu, rfl⟩ := hv
        have hu' : cs[o + i]? = some u := by
          rw [List.getElem?_take] at hu
          split at hu
          · rw [List.getElem?_drop] at hu; exact hu
          · cases hu
        obtain ⟨cv, hcv, hru⟩ := hr.get hu'
        refine ⟨cv, ?_, ih u cv hru ?_⟩
        · simp only [G.at, G.trunc, h3, hge, if_false, hw]
          simpa using hcv
        · have hc' : V.closedL n0 m0 l0 (((cs.drop o).take (n * e)).map (V.norm h n0 k)) := ⟨by simpa [V.brefs] using hc.1, by simpa [V.trefs] using hc.2.1, by simpa [V.yrefs] using hc.2.2⟩
          exact V.closedL_get hc' (i := i) (by rw [List.getElem?_map, hu]; rfl)
    | _ => simp only [V.norm] at hc ⊢; exact VR.trunc ht _ _ hv hc

theorem mem_map_L {α : Type} (f : V → V) (refs : V → List α) (refsL : List V → List α) (h0 : refsL [] = []) (h1 : ∀ v vs, refsL (v :: vs) = refs v ++ refsL vs) :
    ∀ (cs : List V) (x : α), x ∈ refsL (cs.map f) → ∃ (i : Nat) (c : V), cs[i]? = some c ∧ x ∈ refs (f c) := by
  intro cs
  induction cs with
  | nil => intro x hx; simp [h0] at hx
  | cons c cs ih =>
    intro x hx
    simp only [List.map_cons, h1, List.mem_append] at hx
    rcases hx with hx | hx
    · exact ⟨0, c, by simp, hx⟩
    · obtain ⟨i, d, hd, hx⟩ := ih x hx; exact ⟨i + 1, d, by simpa using hd, hx⟩

theorem norm_yrefs {n0 : Nat} (r : R P tab g h w) : ∀ (k : Nat) (v : V) (c : Value), VR P g h.tok v c → ∀ y ∈ (V.norm h n0 k v).yrefs, y < h.lps.length := by
  intro k
  induction k with
  | zero => intro v c hv y hy; exact VR.yrefs r _ _ hv y (by simpa [V.norm] using hy)
  | succ k ih =>
    have list : ∀ (cs : List V) (vs : List Value), LR P g h.tok cs vs → ∀ y ∈ V.yrefsL (cs.map (V.norm h n0 k)), y < h.lps.length := by
      intro cs vs hl y hy
      obtain ⟨i, c, hc, hy⟩ := mem_map_L (V.norm h n0 k) V.yrefs V.yrefsL (by simp [V.yrefsL]) (fun _ _ => by simp [V.yrefsL]) cs y hy
      obtain ⟨cv, _, hr⟩ := hl.get hc
      exact ih c cv hr y hy
    intro v c hv y hy
    cases v with
    | sl n cs gr => simp only [V.norm] at hy; exact VR.yrefs r _ _ hv.weaken y hy
    | agg cs => simp only [V.norm, V.yrefs] at hy; simp only [VR] at hv; obtain ⟨cvs, _, h2⟩ := hv; exact list cs cvs h2 y hy
    | tup cs => simp only [V.norm, V.yrefs] at hy; simp only [VR] at hv; obtain ⟨cvs, _, h2⟩ := hv; exact list cs cvs h2 y hy
    | ifc t x => simp only [V.norm, V.yrefs] at hy; simp only [VR] at hv; obtain ⟨z, _, h2⟩ := hv; exact ih x z h2 y hy
    | ms b o n cp e =>
      simp only [V.norm] at hy
      split at hy
      · simp [V.yrefs] at hy
      · simp only [V.yrefs] at hy
        simp only [VR] at hv
        have hb := (r.oBlk _ b hv.2.2).1
        obtain ⟨⟨ty, cs⟩, hcs⟩ : ∃ x, h.blk[b]? = some x := ⟨_, List.getElem?_eq_getElem hb⟩
        obtain ⟨vs, _, hr⟩ := r.blk b ty cs hcs hv.2.2
        have hgd : h.blk.getD b (0, []) = (ty, cs) := by simp [List.getD, hcs]
        rw [hgd] at hy
        exact list _ _ ((hr.drop o).take (n * e)) y hy
    | _ => simp only [V.norm] at hy; exact VR.yrefs r _ _ hv y hy

theorem norm_trefs {n0 : Nat} (r : R P tab g h w) : ∀ (k : Nat) (v : V) (c : Value), VR P g h.tok v c → ∀ y ∈ (V.norm h n0 k v).trefs, y < h.tok.length := by
  intro k
  induction k with
  | zero => intro v c hv y hy; exact VR.trefs _ _ hv y (by simpa [V.norm] using hy)
  | succ k ih =>
    have list : ∀ (cs : List V) (vs : List Value), LR P g h.tok cs vs → ∀ y ∈ V.trefsL (cs.map (V.norm h n0 k)), y < h.tok.length := by
      intro cs vs hl y hy
      obtain ⟨i, c, hc, hy⟩ := mem_map_L (V.norm h n0 k) V.trefs V.trefsL (by simp [V.trefsL]) (fun _ _ => by simp [V.trefsL]) cs y hy
      obtain ⟨cv, _, hr⟩ := hl.get hc
      exact ih c cv hr y hy
    intro v c hv y hy
    cases v with
    | sl n cs gr => simp only [V.norm] at hy; exact VR.trefs _ _ hv.weaken y hy
    | agg cs => simp only [V.norm, V.trefs] at hy; simp only [VR] at hv; obtain ⟨cvs, _, h2⟩ := hv; exact list cs cvs h2 y hy
    | tup cs => simp only [V.norm, V.trefs] at hy; simp only [VR] at hv; obtain ⟨cvs, _, h2⟩ := hv; exact list cs cvs h2 y hy
    | ifc t x => simp only [V.norm, V.trefs] at hy; simp only [VR] at hv; obtain ⟨z, _, h2⟩ := hv; exact ih x z h2 y hy
    | ms b o n cp e =>
      simp only [V.norm] at hy
      split at hy
      · simp [V.trefs] at hy
      · simp only [V.trefs, List.nil_append] at hy
        simp only [VR] at hv
        have hb := (r.oBlk _ b hv.2.2).1
        obtain ⟨⟨ty, cs⟩, hcs⟩ : ∃ x, h.blk[b]? = some x := ⟨_, List.getElem?_eq_getElem hb⟩
        obtain ⟨vs, _, hr⟩ := r.blk b ty cs hcs hv.2.2
        have hgd : h.blk.getD b (0, []) = (ty, cs) := by simp [List.getD, hcs]
        rw [hgd] at hy
        exact list _ _ ((hr.drop o).take (n * e)) y hy
    | _ => simp only [V.norm] at hy; exact VR.trefs _ _ hv y hy

/-- **The end of a call**: what it may forget it forgets. -/
theorem fin_ok {g0 : G} {h0 : H} {w0 : World} {es et : Es} {keep : Bool} {v : V} {c : Value} (r0 : R P tab g0 h0 w0) (r : R P tab g h w)
    (k : Keeps h0.blk.length g0 h0 g h es et) (hv : VR P g h.tok v c) (v' : V) (h' : H) (hf : fin h0.blk.length h0.tok.length keep v h es et = (v', h')) :
    ∃ g', R P tab g' h' w ∧ VR P g' h'.tok v' c ∧ Keeps h0.blk.length g0 h0 g' h' es et := by
  have htl : h0.tok.length ≤ h.tok.length := by
    rcases Nat.eq_zero_or_pos h0.tok.length with hz | hz
    · omega
    · obtain ⟨m', hm', _⟩ := k.ext.tok (h0.tok.length - 1) (h0.tok[h0.tok.length - 1]'(by omega)).1 (h0.tok[h0.tok.length - 1]'(by omega)).2 (by rw [List.getElem?_eq_getElem (by omega)])
      have := (List.getElem?_eq_some_iff.1 hm').1
      omega
  -- the general case: a bound m0 on tokens, and the table that stays
  have main : ∀ (u : V) (m0 : Nat) (tok' : Toks), (u = v ∨ u = V.norm h h0.blk.length 4 v) → h0.tok.length ≤ m0 → (∀ t, t < m0 → tok'[t]? = h.tok[t]?) → (∀ (t : Nat) (x : Nat × Nat), tok'[t]? = some x → h.tok[t]? = some x) →
      (∀ b ∈ u.brefs, b < h0.blk.length) → (∀ t ∈ u.trefs, t < m0) → (∀ p ∈ es, p.2 < h0.blk.length) → ((∀ p ∈ et, p.2 < m0) ∨ m0 = h.tok.length) →
      ∃ g', R P tab g' { h with blk := h.blk.take h0.blk.length, tok := tok' } w ∧ VR P g' tok' u c ∧ Keeps h0.blk.length g0 h0 g' { h with blk := h.blk.take h0.blk.length, tok := tok' } es et := by
    intro u m0 tok' hu hm ht ht' hb1 ht1 hes het
    have hyl : h.lps.length = h0.lps.length := k.lpl
    have hlp : h.lps.take h.lps.length = h.lps := List.take_length
    refine ⟨g.trunc h0.blk.length h.lps.length w, ?_, ?_, ?_⟩
    · have := R.trunc (n0 := h0.blk.length) (m0 := m0) (l0 := h.lps.length) (tok' := tok') r (Nat.le_refl _) k.len ht ht' ?_ ?_
      · rw [hlp] at this; exact this
      · intro b ty cs hb ho hcs
        obtain ⟨cs0, hc0, hk⟩ := k.blk b ty cs hb hcs
        have ho0 := k.back b hb ho
        obtain ⟨vs0, _, hr0⟩ := r0.blk b ty cs0 hc0 ho0
        refine V.closedL_of fun i c' hc' => ?_
        rcases hk i c' hc' with hs | ⟨e1, e2, e3⟩
        · obtain ⟨cv, _, hv0⟩ := hr0.get hs
          exact (closed_of r0 hv0).mono (Nat.le_refl _) hm (by omega)
        · refine ⟨fun x hx => ?_, fun x hx => ?_, by simp [e1]⟩
          · rcases Nat.lt_or_ge b x with hbx | hbx
            · exact hes _ (e2 x hx hbx)
            · omega
          · rcases het with het | het
            · exact het _ (e3 x hx)
            · obtain ⟨vs1, _, hr1⟩ := r.blk b ty cs hcs ho
              obtain ⟨cv, _, hv1⟩ := hr1.get hc'
              have := VR.trefs c' cv hv1 x hx
              omega
      · intro l p _ hp i
        obtain ⟨p0, hp0, he⟩ := k.lps l p hp
        obtain ⟨lc, _, _, hL⟩ := r0.lps l p0 hp0
        have he : p.tm = p0.tm := congrArg (·.1) he
        rw [he]
        cases hi : p0.tm.has i with
        | false => rw [Tm.get_not_has _ _ hi]; exact closed_junk _ _ _
        | true =>
          obtain ⟨cv, _, hv0⟩ := hL.tm i hi
          exact (closed_of r0 hv0).mono (Nat.le_refl _) hm (by omega)
    · have hcl : u.closed h0.blk.length m0 h.lps.length := by
        refine ⟨hb1, ht1, fun y hy => ?_⟩
        rcases hu with rfl | rfl
        · exact VR.yrefs r _ _ hv y hy
        · -- the loops that a result read off leads to are loops that it led to, or that its cells led to
          exact norm_yrefs r 4 v c hv y hy
      rcases hu with rfl | rfl
      · exact VR.trunc ht _ _ hv hcl
      · exact norm_ok r ht 4 v c hv hcl
    · refine ⟨Ext.trunc r0 k.ext (Nat.le_refl _) (by omega) (fun t htt => ht t (by omega)), by have := k.len; simp only [List.length_take]; omega, fun b hb ho => k.back b hb ?_, fun b ty cs' hb hcs => ?_, k.lpl, k.lps⟩
      · simp only [G.trunc] at ho
        split at ho
        · rename_i b' hb'
          split at ho
          · cases ho; exact hb'
          · split at ho <;> cases ho
        · split at ho <;> cases ho
        · rename_i h1 h2; rw [ho] at h1; exact absurd rfl (h1 b)
      · simp only [List.getElem?_take, hb, if_true] at hcs
        exact k.blk b ty cs' hb hcs
  unfold fin at hf
  dsimp only at hf
  have hu : (if keep = true then v else V.norm h h0.blk.length 4 v) = v ∨ (if keep = true then v else V.norm h h0.blk.length 4 v) = V.norm h h0.blk.length 4 v := by
    cases keep <;> simp
  generalize (if keep = true then v else V.norm h h0.blk.length 4 v) = u at hf hu
  split at hf
  · rename_i hcond
    simp only [Bool.and_eq_true, List.all_eq_true, decide_eq_true_eq] at hcond
    obtain ⟨hb1, hes⟩ := hcond
    split at hf
    · rename_i hcond2
      simp only [Bool.and_eq_true, List.all_eq_true, decide_eq_true_eq] at hcond2
      obtain ⟨ht1, het⟩ := hcond2
      cases hf
      exact main _ h0.tok.length (h.tok.take h0.tok.length) hu (Nat.le_refl _) (fun t ht => by rw [List.getElem?_take]; simp [ht]) (fun t x hx => by
        rw [List.getElem?_take] at hx; split at hx
        · exact hx
        · cases hx) hb1 ht1 (fun p hp => hes p hp) (.inl fun p hp => het p hp)
    · cases hf
      exact main _ h.tok.length h.tok hu htl (fun _ _ => rfl) (fun _ _ hx => hx) hb1 (fun t ht => by
        rcases hu with hu | hu <;> rw [hu] at ht
        · exact VR.trefs _ _ hv t ht
        · exact norm_trefs r 4 v c hv t ht) (fun p hp => hes p hp) (.inr rfl)
  · cases hf
    exact ⟨g, r, hv, k⟩
end

end Go.Sim

/- What happens to the relation when memory is made or written. Conditions: none. -/
set_option linter.unusedSimpArgs false
set_option linter.unusedVariables false
namespace Go.Sim

section
variable {P : Program} {tab : Tab} {g : G} {h : H} {w : World}

theorem R.heap {w' : World} (r : R P tab g h w) (hh : w'.heap = w.heap) (hio : (w'.os, w'.output) = (w.os, w.output) := by rfl) : R P tab g h w' where
  blk := by rw [hh]; exact r.blk
  oOld := by rw [hh]; exact r.oOld
  oBlk := r.oBlk
  oRow := by rw [hh]; exact r.oRow
  oLp := r.oLp
  oDfr := by rw [hh]; exact r.oDfr
  fresh := by rw [hh]; exact r.fresh
  tok := by rw [hh]; exact r.tok
  lps := by rw [hh]; exact r.lps
  io := hio.trans r.io

theorem R.lt (r : R P tab g h w) {B : Nat} (hB : g.own B ≠ .free) : B < w.heap.size := by
  rcases Nat.lt_or_ge B w.heap.size with h | h
  · exact h
  · exact absurd (r.fresh B h) hB

/-- A block of the evaluator's that nothing leads to yet. -/
theorem R.phantom (r : R P tab g h w) (x : List (Nat × List V)) : R P tab g { h with blk := h.blk ++ x } w where
  blk := fun b ty cs hb ho => r.blk b ty cs (by
    have := (r.oBlk _ _ ho).1
    rw [List.getElem?_append_left this] at hb; exact hb) ho
  oOld := r.oOld
  oBlk := fun B b ho => by
    obtain ⟨h1, h2⟩ := r.oBlk B b ho
    exact ⟨by simp; omega, h2⟩
  oRow := r.oRow
  oLp := r.oLp
  oDfr := r.oDfr
  fresh := r.fresh
  tok := r.tok
  lps := r.lps
  io := r.io

theorem Keeps.phantom (n0 : Nat) (hn : n0 ≤ h.blk.length) (x : List (Nat × List V)) : Keeps n0 g h g { h with blk := h.blk ++ x } [] [] where
  ext := Ext.refl _ _
  len := by simp
  back := fun _ _ h => h
  blk := fun b ty cs' hb hcs => by
    rw [List.getElem?_append_left (by omega)] at hcs
    exact ⟨cs', hcs, fun _ _ hc => .inl hc⟩
  lpl := rfl
  lps := fun _ p h => ⟨p, h, rfl⟩

def upd {α : Type} (f : Nat → α) (i : Nat) (x : α) : Nat → α := fun j => if j = i then x else f j
@[simp] theorem upd_same {α : Type} (f : Nat → α) (i : Nat) (x : α) : upd f i x i = x := by simp [upd]
theorem upd_other {α : Type} (f : Nat → α) {i j : Nat} (x : α) (h : j ≠ i) : upd f i x j = f j := by simp [upd, h]

/-- The machine lays the block. -/
def G.real (g : G) (b B : Nat) : G := { g with phi := upd g.phi b B, own := upd g.own B (.blk b) }

theorem Ext.real {tok : Toks} (r : R P tab g h w) {b : Nat} (hn : g.own (g.phi b) ≠ .blk b) : Ext g tok (g.real b w.heap.size) tok where
  at_ := fun B o v hv => by
    have hB : B ≠ w.heap.size := by
      intro e
      have := r.fresh B (by omega)
      simp [G.at, this] at hv
    simpa only [G.at, G.real, upd_other _ _ hB] using hv
  blk := fun b' hb' => by
    have hne : b' ≠ b := fun e => hn (e ▸ hb')
    have hB : g.phi b' ≠ w.heap.size := fun e => by have := r.fresh (g.phi b') (by omega); rw [this] at hb'; cases hb'
    simp only [G.real, upd_other _ _ hne]
    exact ⟨trivial, by rw [upd_other _ _ hB]; exact hb'⟩
  lp := fun l hl => by
    have hB : g.lp l ≠ w.heap.size := fun e => by have := r.fresh (g.lp l) (by omega); rw [this] at hl; cases hl
    exact ⟨rfl, by simp only [G.real]; rw [upd_other _ _ hB]; exact hl⟩
  row := fun B ty f t ho => by
    have hB : B ≠ w.heap.size := fun e => by have := r.fresh B (by omega); rw [this] at ho; cases ho
    exact ⟨f, t, by simp only [G.real]; rw [upd_other _ _ hB]; exact ho⟩
  tok := fun t m ty hm => ⟨m, hm, Nat.le_refl _, fun _ => rfl⟩
  dfr := fun D ho => by
    have hB : D ≠ w.heap.size := fun e => by have := r.fresh D (by omega); rw [this] at ho; cases ho
    simp only [G.real]; rw [upd_other _ _ hB]; exact ho
  old := fun D o ho => by
    have hB : D ≠ w.heap.size := fun e => by have := r.fresh D (by omega); rw [this] at ho; cases ho
    simp only [G.real]; rw [upd_other _ _ hB]; exact ho
  io := rfl

theorem heap_alloc (w : World) (o : Obj) (B : Nat) (x : Obj) (hx : w.heap[B]? = some x) : (w.alloc o).heap[B]? = some x := by
  rw [heap_alloc_old w o B (Array.getElem?_eq_some_iff.1 hx).1]; exact hx

theorem R.real (r : R P tab g h w) {b ty : Nat} {cs : List V} {vs : List Value} (hb : h.blk[b]? = some (ty, cs)) (hn : g.own (g.phi b) ≠ .blk b) (hl : LR P g h.tok cs vs) :
    R P tab (g.real b w.heap.size) h (w.alloc (.cells vs.toArray ty)) := by
  have e : Ext g h.tok (g.real b w.heap.size) h.tok := Ext.real r hn
  have oth : ∀ B, B ≠ w.heap.size → (g.real b w.heap.size).own B = g.own B := fun B hB => by simp only [G.real]; rw [upd_other _ _ hB]
  have self : (g.real b w.heap.size).own w.heap.size = .blk b := by simp [G.real]
  have phib : (g.real b w.heap.size).phi b = w.heap.size := by simp [G.real]
  constructor
  · intro b' ty' cs' hb' ho
    by_cases hbb : b' = b
    · subst hbb
      rw [hb] at hb'; cases hb'
      rw [phib]
      exact ⟨vs, heap_alloc_new w _, LR.mono e _ _ hl⟩
    · have hphi : (g.real b w.heap.size).phi b' = g.phi b' := by simp [G.real, upd_other _ _ hbb]
      rw [hphi] at ho ⊢
      by_cases hB : g.phi b' = w.heap.size
      · rw [hB, self] at ho; cases ho; exact absurd rfl hbb
      · rw [oth _ hB] at ho
        obtain ⟨vs', hw, hr⟩ := r.blk b' ty' cs' hb' ho
        exact ⟨vs', heap_alloc w _ _ _ hw, LR.mono e _ _ hr⟩
  · intro B o ho
    by_cases hB : B = w.heap.size
    · subst hB; rw [self] at ho; cases ho
    · rw [oth _ hB] at ho; exact heap_alloc w _ _ _ (r.oOld B o ho)
  · intro B b' ho
    by_cases hB : B = w.heap.size
    · subst hB; rw [self] at ho; cases ho; exact ⟨(List.getElem?_eq_some_iff.1 hb).1, phib⟩
    · rw [oth _ hB] at ho
      obtain ⟨h1, h2⟩ := r.oBlk B b' ho
      have hbb : b' ≠ b := fun e' => hn (by subst e'; rw [h2]; exact ho)
      exact ⟨h1, by simp [G.real, upd_other _ _ hbb, h2]⟩
  · intro B ty' f t ho
    by_cases hB : B = w.heap.size
    · subst hB; rw [self] at ho; cases ho
    · rw [oth _ hB] at ho
      obtain ⟨arr, fz, h1, h2⟩ := r.oRow B ty' f t ho
      exact ⟨arr, fz, heap_alloc w _ _ _ h1, h2⟩
  · intro B l ho
    by_cases hB : B = w.heap.size
    · subst hB; rw [self] at ho; cases ho
    · rw [oth _ hB] at ho; exact r.oLp B l ho
  · intro B ho
    by_cases hB : B = w.heap.size
    · subst hB; rw [self] at ho; cases ho
    · rw [oth _ hB] at ho; exact heap_alloc w _ _ _ (r.oDfr B ho)
  · intro B hB
    simp at hB
    rw [oth _ (by omega)]; exact r.fresh B (by omega)
  · intro t m ty' hm
    obtain ⟨h1, f, h2, h3, arr, fz, h4, h5, h6⟩ := r.tok t m ty' hm
    have hB : (g.tk t).blk ≠ w.heap.size := fun e => by have := r.fresh (g.tk t).blk (by omega); rw [this] at h2; cases h2
    exact ⟨h1, f, by rw [show (g.real b w.heap.size).tk = g.tk from rfl, oth _ hB]; exact h2, h3, arr, fz, heap_alloc w _ _ _ h4, h5, h6⟩
  · intro l p hp
    obtain ⟨lc, h1, h2, h3⟩ := r.lps l p hp
    have hB : g.lp l ≠ w.heap.size := fun e => by have := r.fresh (g.lp l) (by omega); rw [this] at h1; cases h1
    exact ⟨lc, by rw [show (g.real b w.heap.size).lp = g.lp from rfl, oth _ hB]; exact h1, heap_alloc w _ _ _ h2, h3.state, h3.pend, h3.pendX, h3.tm.mono e, h3.params, h3.assign, h3.body, h3.fn⟩
  · exact r.io

theorem Keeps.thenReal {g0 : G} {h0 : H} {n0 b : Nat} {es et : Es} (k : Keeps n0 g0 h0 g h es et) (r : R P tab g h w) (hb : h0.blk.length ≤ b) (hn : g.own (g.phi b) ≠ .blk b) : Keeps n0 g0 h0 (g.real b w.heap.size) h es et where
  ext := k.ext.trans (Ext.real r hn)
  len := k.len
  back := fun b' hb' ho => k.back b' hb' (by
    have hne : b' ≠ b := by omega
    simp only [G.real, upd_other _ _ hne] at ho
    by_cases hB : g.phi b' = w.heap.size
    · rw [hB, upd_same] at ho; cases ho; omega
    · rwa [upd_other _ _ hB] at ho)
  blk := k.blk
  lpl := k.lpl
  lps := k.lps

/-- **A new block.** -/
theorem R.new (r : R P tab g h w) {n0 ty : Nat} (hn : n0 ≤ h.blk.length) {cs : List V} {vs : List Value} (hl : LR P g h.tok cs vs) :
    ∃ g', R P tab g' { h with blk := h.blk ++ [(ty, cs)] } (w.alloc (.cells vs.toArray ty)) ∧ Keeps n0 g h g' { h with blk := h.blk ++ [(ty, cs)] } [] [] ∧
      VR P g' h.tok (.pblk h.blk.length 0) (.pointer (some ⟨w.heap.size, 0, none⟩)) ∧ g'.phi h.blk.length = w.heap.size ∧ g'.own w.heap.size = .blk h.blk.length := by
  have hno : g.own (g.phi h.blk.length) ≠ .blk h.blk.length := fun e => by have := (r.oBlk _ _ e).1; omega
  have r1 := r.phantom [(ty, cs)]
  have hb : ({ h with blk := h.blk ++ [(ty, cs)] } : H).blk[h.blk.length]? = some (ty, cs) := by simp
  refine ⟨g.real h.blk.length w.heap.size, r1.real hb hno hl, ?_, ?_, by simp [G.real], by simp [G.real]⟩
  · exact (Keeps.phantom (g := g) (h := h) n0 hn [(ty, cs)]).thenReal r1 (Nat.le_refl _) hno
  · simp only [VR, G.real, upd_same]; exact ⟨trivial, trivial⟩

-- ---------------------------------------------------------------- a new row
/-- A row of cells that never change (f), perhaps a token's. -/
def G.row (g : G) (B ty : Nat) (f : Nat → Option Value) (t : Option Nat) (tk : Nat → TkI) : G := { g with own := upd g.own B (.row ty f t), tk := tk }

theorem Ext.newRow (r : R P tab g h w) {ty : Nat} {f : Nat → Option Value} {t : Option Nat} {tk : Nat → TkI} {tok' : Toks}
    (ht : ∀ t m ty, h.tok[t]? = some (m, ty) → ∃ m', tok'[t]? = some (m', ty) ∧ m ≤ m' ∧ (m' = m → tk t = g.tk t)) : Ext g h.tok (g.row w.heap.size ty f t tk) tok' where
  at_ := fun B o v hv => by
    have hB : B ≠ w.heap.size := fun e => by have := r.fresh B (by omega); simp [G.at, this] at hv
    simpa only [G.at, G.row, upd_other _ _ hB] using hv
  blk := fun b ho => by
    have hB : g.phi b ≠ w.heap.size := fun e => by have := r.fresh (g.phi b) (by omega); rw [this] at ho; cases ho
    exact ⟨rfl, by simp only [G.row]; rw [upd_other _ _ hB]; exact ho⟩
  lp := fun l ho => by
    have hB : g.lp l ≠ w.heap.size := fun e => by have := r.fresh (g.lp l) (by omega); rw [this] at ho; cases ho
    exact ⟨rfl, by simp only [G.row]; rw [upd_other _ _ hB]; exact ho⟩
  row := fun B ty f t ho => by
    have hB : B ≠ w.heap.size := fun e => by have := r.fresh B (by omega); rw [this] at ho; cases ho
    exact ⟨f, t, by simp only [G.row]; rw [upd_other _ _ hB]; exact ho⟩
  tok := ht
  dfr := fun D ho => by
    have hB : D ≠ w.heap.size := fun e => by have := r.fresh D (by omega); rw [this] at ho; cases ho
    simp only [G.row]; rw [upd_other _ _ hB]; exact ho
  old := fun D o ho => by
    have hB : D ≠ w.heap.size := fun e => by have := r.fresh D (by omega); rw [this] at ho; cases ho
    simp only [G.row]; rw [upd_other _ _ hB]; exact ho
  io := rfl

/-- **A new row**: the table of tokens may turn at one token, whose row it is. -/
theorem R.row (r : R P tab g h w) {n0 ty : Nat} {arr : Array Value} {fz : Nat × Nat} {f : Nat → Option Value} {t : Option Nat} {tk : Nat → TkI} {tok' : Toks} (w' : World)
    (hw : w'.heap = (w.alloc (.cells arr ty fz)).heap) (hf : ∀ o v, f o = some v → arr[o]? = some v)
    (ht : ∀ t m ty, h.tok[t]? = some (m, ty) → ∃ m', tok'[t]? = some (m', ty) ∧ m ≤ m' ∧ (m' = m → tk t = g.tk t))
    (hnew : ∀ t' m' ty', tok'[t']? = some (m', ty') → (h.tok[t']? = some (m', ty') ∧ tk t' = g.tk t') ∨
      (t = some t' ∧ ty' = ty ∧ m' ≤ (tk t').cap ∧ (tk t').blk = w.heap.size ∧ arr.size = (tk t').cap * P.cellsOf ty ∧ (∀ j, m' * P.cellsOf ty ≤ j → f j = none) ∧ fz.2 ≤ m' * P.cellsOf ty))
    (hio : (w'.os, w'.output) = (w.os, w.output) := by rfl) : R P tab (g.row w.heap.size ty f t tk) { h with tok := tok' } w' ∧ Keeps n0 g h (g.row w.heap.size ty f t tk) { h with tok := tok' } [] [] := by
  have e : Ext g h.tok (g.row w.heap.size ty f t tk) tok' := Ext.newRow r ht
  have oth : ∀ B, B ≠ w.heap.size → (g.row w.heap.size ty f t tk).own B = g.own B := fun B hB => by simp only [G.row]; rw [upd_other _ _ hB]
  have self : (g.row w.heap.size ty f t tk).own w.heap.size = .row ty f t := by simp [G.row]
  have hold : ∀ (B : Nat) (x : Obj), w.heap[B]? = some x → w'.heap[B]? = some x := fun B x hx => by rw [hw]; exact heap_alloc w _ _ _ hx
  have hself : w'.heap[w.heap.size]? = some (.cells arr ty fz) := by rw [hw]; exact heap_alloc_new w _
  have hsz : w'.heap.size = w.heap.size + 1 := by rw [hw]; simp
  refine ⟨?_, ⟨e, Nat.le_refl _, fun b _ ho => ?_, fun b ty cs' _ hcs => ⟨cs', hcs, fun _ _ hc => .inl hc⟩, rfl, fun _ p h => ⟨p, h, rfl⟩⟩⟩
  · constructor
    · intro b ty' cs hb ho
      have hB : g.phi b ≠ w.heap.size := fun e' => by rw [show (g.row w.heap.size ty f t tk).phi b = g.phi b from rfl, e', self] at ho; cases ho
      rw [show (g.row w.heap.size ty f t tk).phi b = g.phi b from rfl, oth _ hB] at ho
      obtain ⟨vs, h1, h2⟩ := r.blk b ty' cs hb ho
      exact ⟨vs, hold _ _ h1, LR.mono e _ _ h2⟩
    · intro B o ho
      by_cases hB : B = w.heap.size
      · subst hB; rw [self] at ho; cases ho
      · rw [oth _ hB] at ho; exact hold _ _ (r.oOld B o ho)
    · intro B b ho
      by_cases hB : B = w.heap.size
      · subst hB; rw [self] at ho; cases ho
      · rw [oth _ hB] at ho; exact r.oBlk B b ho
    · intro B ty' f' t' ho
      by_cases hB : B = w.heap.size
      · subst hB; rw [self] at ho; cases ho; exact ⟨arr, fz, hself, hf⟩
      · rw [oth _ hB] at ho
        obtain ⟨arr', fz', h1, h2⟩ := r.oRow B ty' f' t' ho
        exact ⟨arr', fz', hold _ _ h1, h2⟩
    · intro B l ho
      by_cases hB : B = w.heap.size
      · subst hB; rw [self] at ho; cases ho
      · rw [oth _ hB] at ho; exact r.oLp B l ho
    · intro B ho
      by_cases hB : B = w.heap.size
      · subst hB; rw [self] at ho; cases ho
      · rw [oth _ hB] at ho; exact hold _ _ (r.oDfr B ho)
    · intro B hB
      rw [oth _ (by omega)]; exact r.fresh B (by omega)
    · intro t' m' ty' hm
      rcases hnew t' m' ty' hm with ⟨hm', htk⟩ | ⟨rfl, rfl, h1, h2, h3, h4, h5⟩
      · obtain ⟨h1, f', h2, h3, arr', fz', h4, h5, h6⟩ := r.tok t' m' ty' hm'
        rw [← htk] at h1 h2 h4 h5
        have hB : (tk t').blk ≠ w.heap.size := fun e' => by have := r.fresh (tk t').blk (by omega); rw [this] at h2; cases h2
        exact ⟨h1, f', by show (g.row w.heap.size ty f t tk).own (tk t').blk = _; rw [oth _ hB]; exact h2, h3, arr', fz', hold _ _ h4, h5, h6⟩
      · refine ⟨h1, f, ?_, h4, arr, fz, ?_, h3, h5⟩
        · show (g.row w.heap.size _ f _ tk).own (tk t').blk = _
          rw [h2, self]
        · show w'.heap[(tk t').blk]? = _
          rw [h2]; exact hself
    · intro l p hp
      obtain ⟨lc, h1, h2, h3⟩ := r.lps l p hp
      have hB : g.lp l ≠ w.heap.size := fun e => by have := r.fresh (g.lp l) (by omega); rw [this] at h1; cases h1
      exact ⟨lc, by rw [show (g.row w.heap.size ty f t tk).lp = g.lp from rfl, oth _ hB]; exact h1, hold _ _ h2, h3.state, h3.pend, h3.pendX, h3.tm.mono e, h3.params, h3.assign, h3.body, h3.fn⟩
    · exact hio.trans r.io
  · have hB : g.phi b ≠ w.heap.size := fun e' => by rw [show (g.row w.heap.size ty f t tk).phi b = g.phi b from rfl, e', self] at ho; cases ho
    rwa [show (g.row w.heap.size ty f t tk).phi b = g.phi b from rfl, oth _ hB] at ho

-- ---------------------------------------------------------------- a block written
theorem LR.set {tok : Toks} {cs : List V} {vs : List Value} (hl : LR P g tok cs vs) {ds : List V} {us : List Value} (hd : LR P g tok ds us) (o : Nat) (ho : o + ds.length ≤ cs.length) :
    LR P g tok (putAt cs o ds) (vs.take o ++ us ++ vs.drop (o + us.length)) := by
  unfold putAt
  rw [← hd.length]
  exact ((hl.take o).append hd).append (hl.drop _)

/-- **A store into a block.** -/
theorem R.store (r : R P tab g h w) {b ty : Nat} {cs : List V} (hb : h.blk[b]? = some (ty, cs)) (ho : g.own (g.phi b) = .blk b) {cs' : List V} {vs' : List Value} (hl : LR P g h.tok cs' vs')
    (w' : World) (hsz : w'.heap.size = w.heap.size) (hoth : ∀ k, k ≠ g.phi b → w'.heap[k]? = w.heap[k]?) (hself : w'.heap[g.phi b]? = some (.cells vs'.toArray ty (0, 0))) (hio : (w'.os, w'.output) = (w.os, w.output) := by rfl) :
    R P tab g (setBlk h b cs') w' := by
  have hne : ∀ B, g.own B ≠ .blk b → w'.heap[B]? = w.heap[B]? := fun B hB => hoth B fun e => hB (e ▸ ho)
  constructor
  · intro b' ty' cs0 hb' ho'
    simp only [setBlk, List.getElem?_modify] at hb'
    by_cases hbb : b = b'
    · subst hbb
      simp only [if_true, hb, Option.map_some, Option.some.injEq, Prod.mk.injEq] at hb'
      obtain ⟨rfl, rfl⟩ := hb'
      exact ⟨vs', hself, hl⟩
    · simp only [hbb, if_false, Option.map_id_fun', id] at hb'
      obtain ⟨vs, h1, h2⟩ := r.blk b' ty' cs0 (by simpa using hb') ho'
      refine ⟨vs, ?_, h2⟩
      rw [hne _ (by rw [ho']; intro e; cases e; exact hbb rfl)]; exact h1
  · intro B o hB; rw [hne B (by rw [hB]; simp)]; exact r.oOld B o hB
  · intro B b' hB
    obtain ⟨h1, h2⟩ := r.oBlk B b' hB
    exact ⟨by simpa [setBlk] using h1, h2⟩
  · intro B ty' f t hB; rw [hne B (by rw [hB]; simp)]; exact r.oRow B ty' f t hB
  · intro B l hB; exact r.oLp B l hB
  · intro B hB; rw [hne B (by rw [hB]; simp)]; exact r.oDfr B hB
  · intro B hB; exact r.fresh B (by omega)
  · intro t m ty' hm
    obtain ⟨h1, f, h2, h3, arr, fz, h4, h5, h6⟩ := r.tok t m ty' hm
    exact ⟨h1, f, h2, h3, arr, fz, by rw [hne _ (by rw [h2]; simp)]; exact h4, h5, h6⟩
  · intro l p hp
    obtain ⟨lc, h1, h2, h3⟩ := r.lps l p hp
    exact ⟨lc, h1, by rw [hne _ (by rw [h1]; simp)]; exact h2, h3⟩
  · exact hio.trans r.io

-- ---------------------------------------------------------------- a row's room filled
/-- The cells of a token's row from its mark on are written, and never change again. -/
theorem R.fill (r : R P tab g h w) {n0 t m k ty : Nat} (hm : h.tok[t]? = some (m, ty)) (hk : m + k ≤ (g.tk t).cap) {us : List Value} (hu : us.length = k * P.cellsOf ty) (hk0 : 0 < k)
    {arr : Array Value} {fz : Nat × Nat} (harr : w.heap[(g.tk t).blk]? = some (.cells arr ty fz))
    (w' : World) (hsz : w'.heap.size = w.heap.size) (hoth : ∀ j, j ≠ (g.tk t).blk → w'.heap[j]? = w.heap[j]?)
    (hself : w'.heap[(g.tk t).blk]? = some (.cells (arr.toList.take (m * P.cellsOf ty) ++ us ++ arr.toList.drop (m * P.cellsOf ty + us.length)).toArray ty fz)) (hio : (w'.os, w'.output) = (w.os, w.output) := by rfl) :
    ∃ g', R P tab g' { h with tok := h.tok.set t (m + k, ty) } w' ∧ Keeps n0 g h g' { h with tok := h.tok.set t (m + k, ty) } [] [] ∧ g'.tk = g.tk ∧
      (∀ i u, us[i]? = some u → g'.at (g.tk t).blk (m * P.cellsOf ty + i) = some u) := by
  obtain ⟨h1, f, h2, h3, arr', fz', h4, h5, h6⟩ := r.tok t m ty hm
  rw [harr] at h4; cases h4
  have hkm : (m + k) * P.cellsOf ty = m * P.cellsOf ty + us.length := by rw [hu, Nat.add_mul]
  have hcap : m * P.cellsOf ty + us.length ≤ arr.size := by rw [h5, ← hkm]; exact Nat.mul_le_mul_right _ hk
  let f' : Nat → Option Value := fun o => if o < m * P.cellsOf ty then f o else us[o - m * P.cellsOf ty]?
  let g' : G := { g with own := upd g.own (g.tk t).blk (.row ty f' (some t)) }
  have self : g'.own (g.tk t).blk = .row ty f' (some t) := by simp [g']
  have oth : ∀ B, B ≠ (g.tk t).blk → g'.own B = g.own B := fun B hB => by simp only [g']; rw [upd_other _ _ hB]
  have hlt : t < h.tok.length := (List.getElem?_eq_some_iff.1 hm).1
  have hff : ∀ o v, f o = some v → f' o = some v := fun o v hv => by
    by_cases ho : o < m * P.cellsOf ty
    · simp only [f', ho, if_true]; exact hv
    · rw [h3 o (by omega)] at hv; cases hv
  have hf' : ∀ o v, f' o = some v → (arr.toList.take (m * P.cellsOf ty) ++ us ++ arr.toList.drop (m * P.cellsOf ty + us.length)).toArray[o]? = some v := fun o v hv => by
    have hmin : min (m * P.cellsOf ty) arr.size = m * P.cellsOf ty := by omega
    simp only [f'] at hv
    split at hv
    · rename_i ho
      obtain ⟨arr2, fz2, h7, h8⟩ := r.oRow _ _ _ _ h2
      rw [harr] at h7; cases h7
      have := h8 o v hv
      simp only [List.getElem?_toArray, List.append_assoc]
      rw [List.getElem?_append_left (by simp only [List.length_take, Array.length_toList]; omega), List.getElem?_take]
      simp only [ho, if_true]
      simpa using this
    · rename_i ho
      simp only [List.getElem?_toArray, List.append_assoc]
      rw [List.getElem?_append_right (by simp only [List.length_take, Array.length_toList]; omega)]
      have hlt' : o - m * P.cellsOf ty < us.length := (List.getElem?_eq_some_iff.1 hv).1
      rw [List.getElem?_append_left (by simp only [List.length_take, Array.length_toList]; omega)]
      simp only [List.length_take, Array.length_toList, hmin]
      exact hv
  have e : Ext g h.tok g' (h.tok.set t (m + k, ty)) := by
    constructor
    · intro B o v hv
      by_cases hB : B = (g.tk t).blk
      · subst hB; simp only [G.at, h2] at hv; simp only [G.at, self]; exact hff o v hv
      · simp only [G.at, oth _ hB]; exact hv
    · intro b ho
      exact ⟨rfl, by rw [oth _ (fun e => by rw [e, h2] at ho; cases ho)]; exact ho⟩
    · intro l ho
      exact ⟨rfl, by rw [oth _ (fun e => by rw [e, h2] at ho; cases ho)]; exact ho⟩
    · intro B ty' f0 t0 ho
      by_cases hB : B = (g.tk t).blk
      · subst hB; rw [h2] at ho; cases ho; exact ⟨f', some t, self⟩
      · exact ⟨f0, t0, by rw [oth _ hB]; exact ho⟩
    · intro t' m' ty' hm'
      by_cases ht : t' = t
      · subst ht; rw [hm] at hm'; cases hm'
        exact ⟨m + k, by simp [hlt], by omega, fun _ => rfl⟩
      · exact ⟨m', by rw [List.getElem?_set_ne (fun e => ht e.symm)]; exact hm', Nat.le_refl _, fun _ => rfl⟩
    · intro D ho; rw [oth _ (fun e => by rw [e, h2] at ho; cases ho)]; exact ho
    · intro D o ho; rw [oth _ (fun e => by rw [e, h2] at ho; cases ho)]; exact ho
    · rfl
  refine ⟨g', ?_, ⟨e, Nat.le_refl _, fun b _ ho => ?_, fun b ty cs' _ hcs => ⟨cs', hcs, fun _ _ hc => .inl hc⟩, rfl, fun _ p h => ⟨p, h, rfl⟩⟩, rfl, ?_⟩
  · constructor
    · intro b ty' cs hb ho
      have hB : g.phi b ≠ (g.tk t).blk := fun e' => by rw [show g'.phi b = g.phi b from rfl, e', self] at ho; cases ho
      rw [show g'.phi b = g.phi b from rfl, oth _ hB] at ho
      obtain ⟨vs, h7, h8⟩ := r.blk b ty' cs hb ho
      exact ⟨vs, by rw [show g'.phi b = g.phi b from rfl, hoth _ hB]; exact h7, LR.mono e _ _ h8⟩
    · intro B o ho
      by_cases hB : B = (g.tk t).blk
      · subst hB; rw [self] at ho; cases ho
      · rw [oth _ hB] at ho; rw [hoth _ hB]; exact r.oOld B o ho
    · intro B b ho
      by_cases hB : B = (g.tk t).blk
      · subst hB; rw [self] at ho; cases ho
      · rw [oth _ hB] at ho; exact r.oBlk B b ho
    · intro B ty' f0 t0 ho
      by_cases hB : B = (g.tk t).blk
      · subst hB; rw [self] at ho; cases ho; exact ⟨_, fz, hself, hf'⟩
      · rw [oth _ hB] at ho; rw [hoth _ hB]; exact r.oRow B ty' f0 t0 ho
    · intro B l ho
      by_cases hB : B = (g.tk t).blk
      · subst hB; rw [self] at ho; cases ho
      · rw [oth _ hB] at ho; exact r.oLp B l ho
    · intro B ho
      by_cases hB : B = (g.tk t).blk
      · subst hB; rw [self] at ho; cases ho
      · rw [oth _ hB] at ho; rw [hoth _ hB]; exact r.oDfr B ho
    · intro B hB
      have hB' : B ≠ (g.tk t).blk := fun e => by
        have := (Array.getElem?_eq_some_iff.1 harr).1; omega
      rw [oth _ hB']; exact r.fresh B (by omega)
    · intro t' m' ty' hm'
      by_cases ht : t' = t
      · subst ht
        simp [hlt] at hm'
        obtain ⟨rfl, rfl⟩ := hm'
        refine ⟨hk, f', self, fun j hj => ?_, _, fz, hself, ?_, ?_⟩
        · simp only [f']
          rw [if_neg (by rw [hkm] at hj; omega)]
          exact List.getElem?_eq_none (by rw [hkm] at hj; omega)
        · rw [← h5]; simp; omega
        · rw [hkm]; omega
      · rw [List.getElem?_set_ne (fun e => ht e.symm)] at hm'
        obtain ⟨k1, f0, k2, k3, arr0, fz0, k4, k5, k6⟩ := r.tok t' m' ty' hm'
        have hB : (g.tk t').blk ≠ (g.tk t).blk := fun e => by
          rw [e, h2] at k2; cases k2; exact ht rfl
        exact ⟨k1, f0, by show g'.own (g.tk t').blk = _; rw [oth _ hB]; exact k2, k3, arr0, fz0, by show w'.heap[(g.tk t').blk]? = _; rw [hoth _ hB]; exact k4, k5, k6⟩
    · intro l p hp
      obtain ⟨lc, k1, k2, k3⟩ := r.lps l p hp
      have hB : g.lp l ≠ (g.tk t).blk := fun e => by rw [e, h2] at k1; cases k1
      exact ⟨lc, by show g'.own (g.lp l) = _; rw [oth _ hB]; exact k1, by show w'.heap[g.lp l]? = _; rw [hoth _ hB]; exact k2, k3.state, k3.pend, k3.pendX, k3.tm.mono e, k3.params, k3.assign, k3.body, k3.fn⟩
    · exact hio.trans r.io
  · have hB : g.phi b ≠ (g.tk t).blk := fun e' => by rw [show g'.phi b = g.phi b from rfl, e', self] at ho; cases ho
    rwa [show g'.phi b = g.phi b from rfl, oth _ hB] at ho
  · intro i u hi
    simp only [G.at, self, f']
    rw [if_neg (by omega)]
    simpa using hi
end

end Go.Sim

