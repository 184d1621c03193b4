/- The evaluator: it runs the model's code on memory whose blocks have names; no tape, no capacity. -/
import GoSem.Dispatch
import GoSem.Machine.Frame
namespace Go.Ev
noncomputable section

/-! ### Finite maps from numbers -/
inductive Tree (α : Type) where
  | nil
  | node (v : Option α) (l r : Tree α)
  deriving Inhabited

/-- the value of a number; a recursor, for the kernel's sake -/
def Tree.get {α : Type} (t : Tree α) : Nat → Option α :=
  Tree.rec (motive := fun _ => Nat → Option α) (fun _ => none)
    (fun v _ _ l r k => Bool.rec (Bool.rec (r (Nat.sub (Nat.div k 2) 1)) (l (Nat.div k 2)) (Nat.beq (Nat.mod k 2) 1)) v (Nat.beq k 0)) t
/-- a path that ends in x -/
def Tree.path {α : Type} (x : Option α) (f : Nat) : Nat → Tree α :=
  Nat.rec (motive := fun _ => Nat → Tree α) (fun _ => .nil)
    (fun _ ih k => Bool.rec (Bool.rec (.node none .nil (ih (Nat.sub (Nat.div k 2) 1))) (.node none (ih (Nat.div k 2)) .nil) (Nat.beq (Nat.mod k 2) 1)) (.node x .nil .nil) (Nat.beq k 0)) f
def Tree.upd {α : Type} (x : Option α) (t : Tree α) : Nat → Tree α :=
  Tree.rec (motive := fun _ => Nat → Tree α) (fun k => Tree.path x (k + 1) k)
    (fun v l r il ir k => Bool.rec (Bool.rec (.node v l (ir (Nat.sub (Nat.div k 2) 1))) (.node v (il (Nat.div k 2)) r) (Nat.beq (Nat.mod k 2) 1)) (.node x l r) (Nat.beq k 0)) t

def Tree.set {α : Type} (t : Tree α) (k : Nat) (x : α) : Tree α := Tree.upd (some x) t k
def Tree.del {α : Type} (t : Tree α) (k : Nat) : Tree α := Tree.upd none t k
def Tree.ofList {α : Type} (l : List (Nat × α)) : Tree α := l.foldl (fun t p => t.set p.1 p.2) .nil

/-! ### Values -/
/-- The value of one cell. A slice: its block's name, its first cell, how many elements, of how many cells each. -/
inductive C where
  | bool (b : Bool)
  | int (k : IntKind) (n : Int)
  | str (s : List UInt8)
  | ptr (n off : Nat)
  | pnil
  | slice (n off len sz : Nat)
  | snil
  | map (n : Nat)
  | mnil
  | fn (f : FuncId) (first caps : List (Option (Nat × Nat)))
  | yield (l : Nat)
  | nilFn
  deriving Inhabited

/-- One cell, or a row of cells (a struct, an array). -/
inductive W where
  | c (x : C)
  | g (l : List C)
  deriving Inhabited

inductive V where
  | w (x : W)
  | tup (l : List W)
  deriving Inhabited

abbrev undef : V := .tup []
def W.cells : W → List C
  | .c x => [x]
  | .g l => l

abbrev Tmps := Tree V

inductive O where
  /-- cells of els.length elements of sz cells each; ro: not to be written -/
  | row (sz : Nat) (els : List (List C)) (ro : Bool)
  | map (es : List (W × W))
  | loop (ts : Tmps) (n : Nat) (params : List Tmp) (assign body : Code) (st : LoopState) (pend : Option Code) (d : Nat)
  | defers
  | iter (m : Option Nat)
  deriving Inhabited

structure H where
  m : Tree O
  next : Nat
  deriving Inhabited

def H.get (h : H) (n : Nat) : Option O := h.m.get n
def H.put (h : H) (n : Nat) (o : O) : H := ⟨h.m.set n o, h.next⟩
def H.del (h : H) (n : Nat) : H := ⟨h.m.del n, h.next⟩
def H.new (h : H) (o : O) : H := ⟨h.m.set h.next o, h.next + 1⟩

/-- What is known of a type. -/
structure TI where
  desc : TypeDesc
  size : Nat
  bytes : Nat
  zero : W
  agg : Bool
  plain : Bool
  deriving Inhabited

/-- What the evaluator knows of a program. -/
structure Cfg where
  funcs : Tree Func
  types : Tree TI
  globs : Tree Nat
  clones : List FuncId
  sorted : List (FuncId × TypeId)
  keys : List FuncId

/-! ### Constants, operands -/
def absC : Value → Option C
  | .bool b => some (.bool b)
  | .int k n => some (.int k n)
  | .string s => some (.str s.data.toList)
  | .pointer none => some .pnil
  | .slice none 0 0 => some .snil
  | .map none => some .mnil
  | .nilFunc => some .nilFn
  | _ => none

def absL : List Value → Option (List C)
  | [] => some []
  | v :: l => match absC v with
    | none => none
    | some c => match absL l with
      | none => none
      | some cs => some (c :: cs)

def absV : Value → Option V
  | .agg cs => match absL cs.toList with
    | none => none
    | some l => some (.w (.g l))
  | .tuple cs => match cs.toList with
    | [] => some undef
    | _ => none
  | v => match absC v with
    | none => none
    | some c => some (.w (.c c))

def evalT (ts : Tmps) (t : Tmp) : V := match ts.get t with
  | none => undef
  | some v => v
def evalG (K : Cfg) (g : Nat) : Option V := match K.globs.get g with
  | none => none
  | some n => some (.w (.c (.ptr n 0)))
def evalO (K : Cfg) (ts : Tmps) (x : Operand) : Option V :=
  Operand.rec (motive := fun _ => Cfg → Tmps → Option V) (fun t _ ts => some (evalT ts t)) (fun v _ _ => absV v) (fun g K _ => evalG K g) (fun f _ _ => some (.w (.c (.fn f [] [])))) x K ts

def asW : Option V → Option W
  | some (.w v) => some v
  | _ => none
def asC : Option V → Option C
  | some (.w (.c v)) => some v
  | _ => none
def evalW (K : Cfg) (ts : Tmps) (x : Operand) : Option W := asW (evalO K ts x)
def evalC (K : Cfg) (ts : Tmps) (x : Operand) : Option C := asC (evalO K ts x)
def evalWs (K : Cfg) (ts : Tmps) : List Operand → Option (List W)
  | [] => some []
  | x :: l => match evalW K ts x with
    | none => none
    | some c => match evalWs K ts l with
      | none => none
      | some cs => some (c :: cs)

/-! ### Memory -/
/-- n cells of a row from a place on, within one element. -/
def readRow (sz : Nat) (els : List (List C)) (off n : Nat) : Option (List C) :=
  bif Nat.beq n 0 then some []
  else match els[off / sz]? with
    | none => none
    | some e => bif Nat.ble (off % sz + n) e.length then some ((e.drop (off % sz)).take n) else none
def read1 (sz : Nat) (els : List (List C)) (off : Nat) : Option C := match els[off / sz]? with
  | none => none
  | some e => e[off % sz]?
def writeRow (sz : Nat) (els : List (List C)) (off : Nat) (l : List C) : Option (List (List C)) :=
  match l with
  | [] => some els
  | [c] => match els[off / sz]? with
    | none => none
    | some e => bif Nat.blt (off % sz) e.length then some (els.set (off / sz) (e.set (off % sz) c)) else none
  | l => match els[off / sz]? with
    | none => none
    | some e => bif Nat.ble (off % sz + l.length) e.length then some (els.set (off / sz) (e.take (off % sz) ++ l ++ e.drop (off % sz + l.length))) else none

/-- k elements of sz' cells each from a place on: a row's elements, or a part of one element. -/
def chunks (sz : Nat) : Nat → List C → List (List C)
  | 0, _ => []
  | k + 1, l => l.take sz :: chunks sz k (l.drop sz)
def readMany (sz : Nat) (els : List (List C)) (off sz' k : Nat) : Option (List (List C)) :=
  bif Nat.beq k 0 then some []
  else bif Nat.beq sz sz' then
    bif Nat.beq (off % sz) 0 && Nat.ble (off / sz + k) els.length then some ((els.drop (off / sz)).take k) else none
  else match readRow sz els off (k * sz') with
    | none => none
    | some l => some (chunks sz' k l)
def writeMany (sz : Nat) (els : List (List C)) (off sz' : Nat) (xs : List (List C)) : Option (List (List C)) :=
  match xs with
  | [] => some els
  | xs => bif Nat.beq sz sz' then
      bif Nat.beq (off % sz) 0 && Nat.ble (off / sz + xs.length) els.length then some (els.take (off / sz) ++ xs ++ els.drop (off / sz + xs.length)) else none
    else writeRow sz els off xs.flatten

def outW (h : H) : Option W → Option (V × H)
  | some v => some (.w v, h)
  | none => none
def outC (h : H) : Option C → Option (V × H)
  | some v => some (.w (.c v), h)
  | none => none
def outH : Option H → Option (V × H)
  | some h => some (undef, h)
  | none => none

def gW : Option (List C) → Option W
  | some l => some (.g l)
  | none => none
def cW : Option C → Option W
  | some c => some (.c c)
  | none => none
def loadIn (ti : TI) (off : Nat) : Option O → Option W
  | some (.row sz els _) => bif ti.agg then gW (readRow sz els off ti.size) else cW (read1 sz els off)
  | _ => none
def load (K : Cfg) (h : H) (t : TypeId) (n off : Nat) : Option W := match K.types.get t with
  | none => none
  | some ti => loadIn ti off (h.get n)
def opLoad (K : Cfg) (h : H) (t : TypeId) : Option C → Option (V × H)
  | some (.ptr n off) => outW h (load K h t n off)
  | _ => none

def putRow (h : H) (n sz : Nat) : Option (List (List C)) → Option H
  | some els => some (h.put n (.row sz els false))
  | none => none
def storeIn (h : H) (ti : TI) (n off : Nat) (v : W) : Option O → Option H
  | some (.row sz els false) => bif Nat.beq v.cells.length ti.size then putRow h n sz (writeRow sz els off v.cells) else none
  | _ => none
def store (K : Cfg) (h : H) (t : TypeId) (n off : Nat) (v : W) : Option H := match K.types.get t with
  | none => none
  | some ti => storeIn h ti n off v (h.get n)
def opStore (K : Cfg) (h : H) (t : TypeId) : Option C → Option W → Option (V × H)
  | some (.ptr n off), some v => outH (store K h t n off v)
  | _, _ => none

/-! ### Numbers -/
def wrapC (k : IntKind) (n : Int) : C := .int k (k.wrap n)
def opBit (k : IntKind) (f : Nat → Nat → Nat) (x y : Int) : C := wrapC k (f (x % 2 ^ k.bits).toNat (y % 2 ^ k.bits).toNat)
def opQuo (k : IntKind) (x y : Int) : Option C := bif y == 0 then none else some (wrapC k (x.tdiv y))
def opRem (k : IntKind) (x y : Int) : Option C := bif y == 0 then none else some (.int k (x.tmod y))
def opShl (k : IntKind) (x y : Int) : Option C := bif decide (y < 0) then none else some (wrapC k (x * 2 ^ (min y.toNat k.bits)))
def opShr (k : IntKind) (x y : Int) : Option C := bif decide (y < 0) then none else some (.int k (x.fdiv (2 ^ (min y.toNat k.bits))))

def binI (op : BinOp) (k : IntKind) (x y : Int) : Option C := match op with
  | .add => some (wrapC k (x + y))
  | .sub => some (wrapC k (x - y))
  | .mul => some (wrapC k (x * y))
  | .quo => opQuo k x y
  | .rem => opRem k x y
  | .and => some (opBit k Nat.land x y)
  | .or => some (opBit k Nat.lor x y)
  | .xor => some (opBit k Nat.xor x y)
  | .andNot => some (opBit k (fun a b => Nat.land a (2 ^ k.bits - 1 - b)) x y)
  | .eql => some (.bool (x == y))
  | .neq => some (.bool (x != y))
  | .lss => some (.bool (decide (x < y)))
  | .leq => some (.bool (decide (x ≤ y)))
  | .gtr => some (.bool (decide (x > y)))
  | .geq => some (.bool (decide (x ≥ y)))
  | _ => none

def binII (op : BinOp) (k : IntKind) (x : Int) (k' : IntKind) (y : Int) : Option C := match op with
  | .shl => opShl k x y
  | .shr => opShr k x y
  | op => if k = k' then binI op k x y else none

def eqStr : List UInt8 → List UInt8 → Bool
  | [], [] => true
  | a :: x, b :: y => a == b && eqStr x y
  | _, _ => false

def binS (op : BinOp) (a b : List UInt8) : Option C := match op with
  | .add => bif Nat.ble (a.length + b.length) 1099511627776 then some (.str (a ++ b)) else none
  | .eql => some (.bool (eqStr a b))
  | .neq => some (.bool !(eqStr a b))
  | .lss => some (.bool (Op.bytesLess a b))
  | .leq => some (.bool (Op.bytesLess a b || eqStr a b))
  | .gtr => some (.bool !(Op.bytesLess a b || eqStr a b))
  | .geq => some (.bool !(Op.bytesLess a b))
  | _ => none

/-- ints of the same kind, cell by cell -/
def eqInts : List C → List C → Option Bool
  | [], [] => some true
  | .int k a :: x, .int k' b :: y => if k = k' then (bif a == b then eqInts x y else some false) else none
  | _, _ => none

/-- '==' of what is one cell, at a type -/
def eqC : TypeDesc → C → C → Option Bool
  | .bool, .bool a, .bool b => some (a == b)
  | .pointer _, .pnil, .pnil => some true
  | .pointer _, .pnil, .ptr _ _ => some false
  | .pointer _, .ptr _ _, .pnil => some false
  | .slice _, .snil, .snil => some true
  | .slice _, .snil, .slice _ _ _ _ => some false
  | .slice _, .slice _ _ _ _, .snil => some false
  | .map _ _, .mnil, .mnil => some true
  | .map _ _, .mnil, .map _ => some false
  | .map _ _, .map _, .mnil => some false
  | .func _ _ _, .nilFn, .nilFn => some true
  | .func _ _ _, .nilFn, .fn _ _ _ => some false
  | .func _ _ _, .fn _ _ _, .nilFn => some false
  | _, _, _ => none
def eqCT (a b : C) : Option TI → Option Bool
  | some ti => eqC ti.desc a b
  | none => none

def partOf (ti : TI) (l : List C) (off : Nat) : Option W :=
  bif ti.agg then (bif Nat.ble (off + ti.size) l.length then some (.g ((l.drop off).take ti.size)) else none) else cW l[off]?

/-- '==' at a type -/
def eqT (K : Cfg) : Nat → TypeId → W → W → Option Bool
  | 0, _, _, _ => none
  | d + 1, t, x, y => match K.types.get t with
    | none => none
    | some ti => bif ti.plain then
      (match ti.desc, x, y with
      | .struct fs, .g a, .g b => eqFields (fun t x y => eqT K d t x y) a b fs.toList
      | .array n e, .g a, .g b => eqArr (K.types.get e) n a b
      | .bool, .c (.bool a), .c (.bool b) => some (a == b)
      | .int _, .c (.int k a), .c (.int k' b) => if k = k' then some (a == b) else none
      | .string, .c (.str a), .c (.str b) => some (eqStr a b)
      | _, _, _ => none)
      else none
where
  eqFields (e : TypeId → W → W → Option Bool) (a b : List C) : List Field → Option Bool
    | [] => some true
    | f :: fs => bif f.name == "_" then eqFields e a b fs else match K.types.get f.type with
      | none => none
      | some tf => match partOf tf a f.offset, partOf tf b f.offset with
        | some x, some y => match e f.type x y with
          | some true => eqFields e a b fs
          | r => r
        | _, _ => none
  eqArr : Option TI → Nat → List C → List C → Option Bool
    | some te, n, a, b => match te.desc with
      | .int _ => bif Nat.beq te.size 1 && Nat.beq a.length n && Nat.beq b.length n then eqInts a b else none
      | _ => none
    | none, _, _, _ => none

def notB : Option Bool → Option C
  | some b => some (.bool !b)
  | none => none
def isB : Option Bool → Option C
  | some b => some (.bool b)
  | none => none
def binC (K : Cfg) (op : BinOp) (t : TypeId) (a b : C) : Option C := match op with
  | .eql => isB (eqCT a b (K.types.get t))
  | .neq => notB (eqCT a b (K.types.get t))
  | _ => none
def binG (K : Cfg) (op : BinOp) (t : TypeId) (a b : List C) : Option C := match op with
  | .eql => isB (eqT K 20 t (.g a) (.g b))
  | .neq => notB (eqT K 20 t (.g a) (.g b))
  | _ => none
def binop (K : Cfg) (op : BinOp) (t : TypeId) : Option W → Option W → Option C
  | some (.c (.int k a)), some (.c (.int k' b)) => binII op k a k' b
  | some (.c (.str a)), some (.c (.str b)) => binS op a b
  | some (.c a), some (.c b) => binC K op t a b
  | some (.g a), some (.g b) => binG K op t a b
  | _, _ => none

def unop (op : UnOp) : Option C → Option C
  | some (.int k n) => match op with
    | .neg => some (wrapC k (0 - n))
    | .xor => some (opBit k Nat.xor (if k.signed then -1 else k.max) n)
    | _ => none
  | some (.bool b) => match op with
    | .not => some (.bool !b)
    | _ => none
  | _ => none

/-! ### Structs, arrays -/
def fieldIn (K : Cfg) : Option Field → Option (Nat × TI)
  | none => none
  | some fd => match K.types.get fd.type with
    | none => none
    | some ft => some (fd.offset, ft)
def fieldOf (K : Cfg) (t : TypeId) (f : Nat) : Option (Nat × TI) := match K.types.get t with
  | some ti => match ti.desc with
    | .struct fs => fieldIn K fs.toList[f]?
    | _ => none
  | none => none
def opFieldAddr (c : Option C) (p : Option (Nat × TI)) : Option C := match c, p with
  | some (.ptr n off), some (o, ft) => bif Nat.beq ft.size 0 then none else some (.ptr n (off + o))
  | _, _ => none
def opField (c : Option W) (p : Option (Nat × TI)) : Option W := match c, p with
  | some (.g l), some (o, ft) => partOf ft l o
  | _, _ => none

def natOf : Option C → Option Nat
  | some (.int _ (.ofNat k)) => some k
  | _ => none

def idxIn (n off len sz : Nat) : Option Nat → Option C
  | some i => bif Nat.blt i len then some (.ptr n (off + i * sz)) else none
  | none => none
def sizeOfT (K : Cfg) (e : TypeId) : Nat := match K.types.get e with
  | some te => te.size
  | none => 0
def opIndexAddr (K : Cfg) (ti : Option TI) (c : Option C) (i : Option Nat) : Option C := match ti, c with
  | some ti, some (.ptr n off) => match ti.desc with
    | .array len e => match K.types.get e with
      | some te => idxIn n off len te.size i
      | none => none
    | _ => none
  | some ti, some (.slice n off len sz) => match ti.desc with
    | .slice e => match K.types.get e with
      | some te => bif Nat.beq sz te.size then idxIn n off len te.size i else none
      | none => none
    | _ => none
  | _, _ => none
def strAt (s : List UInt8) : Option Nat → Option W
  | some i => match s[i]? with
    | some b => some (.c (.int .u8 b.toNat))
    | none => none
  | none => none
def arrAt (K : Cfg) (ti : Option TI) (l : List C) (i : Option Nat) : Option W := match ti, i with
  | some ti, some i => match ti.desc with
    | .array len e => match K.types.get e with
      | some te => bif Nat.blt i len then partOf te l (i * te.size) else none
      | none => none
    | _ => none
  | _, _ => none
def opIndex (K : Cfg) (ti : Option TI) (v : Option W) (i : Option Nat) : Option W := match v with
  | some (.c (.str s)) => match ti with
    | some ti => match ti.desc with
      | .string => strAt s i
      | _ => none
    | none => none
  | some (.g l) => arrAt K ti l i
  | _ => none

def fillPart (z : List C) (off size : Nat) (v : W) : Option (List C) :=
  bif Nat.beq v.cells.length size && Nat.ble (off + size) z.length then some (z.take off ++ v.cells ++ z.drop (off + size)) else none
def fillStruct (K : Cfg) (t : TypeId) : List (Nat × W) → List C → Option (List C)
  | [], z => some z
  | (i, v) :: l, z => match fieldOf K t i with
    | none => none
    | some (off, ft) => match fillPart z off ft.size v with
      | none => none
      | some z' => fillStruct K t l z'
def fillArr (size : Nat) : List (Nat × W) → List C → Option (List C)
  | [], z => some z
  | (i, v) :: l, z => match fillPart z (i * size) size v with
    | none => none
    | some z' => fillArr size l z'
def fillEls (size : Nat) : List (Nat × W) → List (List C) → Option (List (List C))
  | [], z => some z
  | (i, v) :: l, z => bif Nat.beq v.cells.length size && Nat.blt i z.length then fillEls size l (z.set i v.cells) else none
def evalParts (K : Cfg) (ts : Tmps) : List (Nat × Operand) → Option (List (Nat × W))
  | [] => some []
  | (i, x) :: l => match evalW K ts x with
    | none => none
    | some v => match evalParts K ts l with
      | none => none
      | some vs => some ((i, v) :: vs)
def opBuild (K : Cfg) (t : TypeId) (ps : Option (List (Nat × W))) : Option W := match K.types.get t, ps with
  | some ti, some ps => match ti.desc with
    | .struct _ => gW (fillStruct K t ps ti.zero.cells)
    | .array _ e => match K.types.get e with
      | some te => gW (fillArr te.size ps ti.zero.cells)
      | none => none
    | _ => none
  | _, _ => none

/-! ### New memory -/
def newPtr (h : H) (o : O) : Option (V × H) := some (.w (.c (.ptr h.next 0)), h.new o)
def opAlloc (h : H) : Option TI → Option (V × H)
  | some ti => newPtr h (.row ti.size [ti.zero.cells] false)
  | none => none
def opBox (h : H) : Option W → Option (V × H)
  | some v => newPtr h (.row v.cells.length [v.cells] false)
  | none => none
def elemTI (K : Cfg) (t : TypeId) : Option TI := match K.types.get t with
  | some ti => match ti.desc with
    | .slice e => K.types.get e
    | _ => none
  | none => none
def newSlice (h : H) (sz len : Nat) : Option (List (List C)) → Option (V × H)
  | some els => some (.w (.c (.slice h.next 0 len sz)), h.new (.row sz els false))
  | none => none
def opBuildSlice (h : H) (len : Nat) (te : Option TI) (ps : Option (List (Nat × W))) : Option (V × H) := match te, ps with
  | some te, some ps => bif Nat.ble (len * te.size) 16777216 then newSlice h te.size len (fillEls te.size ps (List.replicate len te.zero.cells)) else none
  | _, _ => none
def opMakeSlice (h : H) (te : Option TI) (l c : Option Nat) : Option (V × H) := match te, l, c with
  | some te, some l, some c => bif Nat.ble l c && Nat.ble (c * te.bytes) 1099511627776 && Nat.ble c 1099511627776 then newSlice h te.size l (some (List.replicate c te.zero.cells)) else none
  | _, _, _ => none
def opMakeMap (h : H) : Option (V × H) := some (.w (.c (.map h.next)), h.new (.map []))

/-! ### Slices -/
def bytesOf : List (List C) → Option (List UInt8)
  | [] => some []
  | [.int .u8 (.ofNat n)] :: l => match bytesOf l with
    | none => none
    | some r => some (UInt8.ofNat n :: r)
  | _ => none
/-- the elements of a slice -/
def rowEls (off sz len : Nat) : Option O → Option (List (List C))
  | some (.row sz' els _) => readMany sz' els off sz len
  | _ => none
def sliceEls (h : H) (sz : Nat) : C → Option (List (List C))
  | .snil => some []
  | .slice n off len sz' => bif Nat.beq sz sz' then (bif Nat.beq len 0 then some [] else rowEls off sz len (h.get n)) else none
  | .str b => bif Nat.beq sz 1 then some (b.map fun c => [.int .u8 c.toNat]) else none
  | _ => none
/-- what lies there is written over if something is appended -/
def poison (h : H) : C → Option H
  | .snil => some h
  | .slice n _ _ _ => match h.get n with
    | some (.row _ _ false) => some (h.del n)
    | _ => none
  | _ => none
def appendTo (h : H) (s : C) (te : TI) (new : List (List C)) : Option (List (List C)) → Option (V × H)
  | some old => bif Nat.ble ((old.length + new.length) * te.bytes) 1099511627776 && Nat.ble (old.length + new.length) 1099511627776 then
      (match poison h s with
      | some h1 => newSlice h1 te.size (old.length + new.length) (some (old ++ new))
      | none => none) else none
  | none => none
def isSl : C → Bool
  | .snil => true
  | .slice _ _ _ _ => true
  | _ => false
def opAppend (h : H) (te : Option TI) (s x : C) : Option (V × H) := match te with
  | none => none
  | some te => match sliceEls h te.size x with
    | none => none
    | some [] => bif isSl s then some (.w (.c s), h) else none
    | some new => bif isSl s then appendTo h s te new (sliceEls h te.size s) else none
def copyIn (h : H) (n off sz' len : Nat) (src : List (List C)) : Option O → Option (V × H)
  | some (.row sz els false) => match writeMany sz els off sz' (src.take len) with
    | some els' => some (.w (.c (.int .i64 (min src.length len : Nat))), h.put n (.row sz els' false))
    | none => none
  | _ => none
def opCopy (h : H) (te : Option TI) (d x : C) : Option (V × H) := match te with
  | none => none
  | some te => match sliceEls h te.size x, d with
    | some _, .snil => some (.w (.c (.int .i64 0)), h)
    | some [], .slice _ _ _ _ => some (.w (.c (.int .i64 0)), h)
    | some src, .slice n off len sz => bif Nat.beq sz te.size then (bif Nat.beq len 0 then some (.w (.c (.int .i64 0)), h) else copyIn h n off sz len src (h.get n)) else none
    | _, _ => none

def opClear (h : H) (te : Option TI) (d : C) : Option (V × H) := match te with
  | none => none
  | some te => match d with
    | .snil => some (undef, h)
    | .slice n off len sz => bif Nat.beq sz te.size then (bif Nat.beq len 0 then some (undef, h) else match h.get n with
      | some (.row sz' els false) => (match writeMany sz' els off sz (List.replicate len te.zero.cells) with
        | some els' => some (undef, h.put n (.row sz' els' false))
        | none => none)
      | _ => none) else none
    | _ => none

def bound (d : Nat) : Option (Option C) → Option Nat
  | some none => some d
  | some (some c) => natOf (some c)
  | none => none
def optC (K : Cfg) (ts : Tmps) : Option Operand → Option (Option C)
  | none => some none
  | some o => match evalC K ts o with
    | some c => some (some c)
    | none => none
def cutStr (s : List UInt8) (l r : Option Nat) : Option C := match l, r with
  | some l, some r => bif Nat.ble l r && Nat.ble r s.length then some (.str ((s.take r).drop l)) else none
  | _, _ => none
def cutSl (n off len sz : Nat) (l r : Option Nat) : Option C := match l, r with
  | some l, some r => bif Nat.ble l r && Nat.ble r len then some (.slice n (off + l * sz) (r - l) sz) else none
  | _, _ => none
def cutSl3 (n off len sz : Nat) (l r m : Option Nat) : Option C := match l, r, m with
  | some l, some r, some m => bif Nat.ble l r && Nat.ble r m && Nat.ble m len then some (.slice n (off + l * sz) (r - l) sz) else none
  | _, _, _ => none
def cutNil (l r : Option Nat) : Option C := match l, r with
  | some 0, some 0 => some .snil
  | _, _ => none
/-- does a row reach so far? -/
def reaches (off k : Nat) : Option O → Bool
  | some (.row sz els _) => match read1 sz els (off + k - 1) with
    | some _ => Nat.ble 1 k
    | none => false
  | _ => false
def opSlice (K : Cfg) (h : H) (ti : Option TI) (x : Option C) (lo hi : Option (Option C)) : Option C := match ti, x with
  | some ti, some (.str s) => match ti.desc with
    | .string => cutStr s (bound 0 lo) (bound s.length hi)
    | _ => none
  | some ti, some .snil => match ti.desc with
    | .slice _ => cutNil (bound 0 lo) (bound 0 hi)
    | _ => none
  | some ti, some (.slice n off len sz) => match ti.desc with
    | .slice e => match K.types.get e with
      | some te => bif Nat.beq te.size sz then cutSl n off len sz (bound 0 lo) (bound len hi) else none
      | none => none
    | _ => none
  | some ti, some (.ptr n off) => match ti.desc with
    | .array len e => match K.types.get e with
      | some te => bif reaches off (len * te.size) (h.get n) then cutSl n off len te.size (bound 0 lo) (bound len hi) else none
      | none => none
    | _ => none
  | _, _ => none

def given : Option (Option C) → Option Nat
  | some (some c) => natOf (some c)
  | _ => none
def opSlice3 (K : Cfg) (ti : Option TI) (x : Option C) (lo hi m : Option (Option C)) : Option C := match ti, x with
  | some ti, some (.slice n off len sz) => match ti.desc with
    | .slice e => match K.types.get e with
      | some te => bif Nat.beq te.size sz then cutSl3 n off len sz (bound 0 lo) (given hi) (given m) else none
      | none => none
    | _ => none
  | _, _ => none

/-! ### Maps -/
/-- keys that do not panic: ints, strings, structs of them -/
def keyT (K : Cfg) : Nat → TypeId → W → Bool
  | 0, _, _ => false
  | d + 1, t, x => match K.types.get t with
    | none => false
    | some ti => match ti.desc, x with
      | .int _, .c (.int _ _) => true
      | .string, .c (.str _) => true
      | .struct fs, .g l => keyFields (fun t x => keyT K d t x) l fs.toList
      | _, _ => false
where
  keyFields (e : TypeId → W → Bool) (l : List C) : List Field → Bool
    | [] => true
    | f :: fs => bif f.name == "_" then keyFields e l fs else match K.types.get f.type with
      | none => false
      | some tf => match partOf tf l f.offset with
        | some x => e f.type x && keyFields e l fs
        | none => false
def keyEq (K : Cfg) (kt : TypeId) : W → W → Option Bool
  | .c (.int k a), .c (.int k' b) => if k = k' then some (a == b) else none
  | .c (.str a), .c (.str b) => some (eqStr a b)
  | .g a, .g b => eqT K 20 kt (.g a) (.g b)
  | _, _ => none
/-- the same to the bit -/
def keySame : W → W → Bool
  | .c _, .c _ => true
  | .g a, .g b => match eqInts a b with
    | some true => true
    | _ => false
  | _, _ => false
def findK (K : Cfg) (kt : TypeId) (k : W) : List (W × W) → Option (Option W)
  | [] => some none
  | (k', v) :: l => match keyEq K kt k k' with
    | none => none
    | some true => some (some v)
    | some false => findK K kt k l
def putK (K : Cfg) (kt : TypeId) (k v : W) : List (W × W) → Option (List (W × W))
  | [] => some [(k, v)]
  | (k', v') :: l => match keyEq K kt k k' with
    | none => none
    | some true => bif keySame k' k then some ((k, v) :: l) else none
    | some false => match putK K kt k v l with
      | none => none
      | some l' => some ((k', v') :: l')
def delK (K : Cfg) (kt : TypeId) (k : W) : List (W × W) → Option (List (W × W))
  | [] => some []
  | (k', v') :: l => match keyEq K kt k k' with
    | none => none
    | some true => some l
    | some false => match delK K kt k l with
      | none => none
      | some l' => some ((k', v') :: l')
def mapTI (K : Cfg) (t : TypeId) : Option (TypeId × TypeId) := match K.types.get t with
  | some ti => match ti.desc with
    | .map k e => some (k, e)
    | _ => none
  | none => none
def entriesOf (h : H) : Option C → Option (List (W × W))
  | some .mnil => some []
  | some (.map n) => match h.get n with
    | some (.map es) => some es
    | _ => none
  | _ => none
def found (z : W) (ok : Bool) : Option (Option W) → Option V
  | some none => some (bif ok then .tup [z, .c (.bool false)] else .w z)
  | some (some v) => some (bif ok then .tup [v, .c (.bool true)] else .w v)
  | none => none
def outV (h : H) : Option V → Option (V × H)
  | some v => some (v, h)
  | none => none
def opLookup (K : Cfg) (h : H) (mt : Option (TypeId × TypeId)) (m : Option C) (k : Option W) (ok : Bool) : Option (V × H) := match mt, k, entriesOf h m with
  | some (kt, e), some k, some es => match K.types.get e with
    | some te => bif keyT K 20 kt k then outV h (found te.zero ok (findK K kt k es)) else none
    | none => none
  | _, _, _ => none
def putMap (h : H) (n : Nat) : Option (List (W × W)) → Option (V × H)
  | some es => some (undef, h.put n (.map es))
  | none => none
def opMapUpdate (K : Cfg) (h : H) (mt : Option (TypeId × TypeId)) (m : Option C) (k v : Option W) : Option (V × H) := match mt, m, k, v with
  | some (kt, _), some (.map n), some k, some v => match h.get n with
    | some (.map es) => bif keyT K 20 kt k then putMap h n (putK K kt k v es) else none
    | _ => none
  | _, _, _, _ => none
def opDelete (K : Cfg) (h : H) (mt : Option (TypeId × TypeId)) (m : C) (k : W) : Option (V × H) := match mt, m with
  | some (kt, _), .map n => match h.get n with
    | some (.map es) => bif keyT K 20 kt k then putMap h n (delK K kt k es) else none
    | _ => none
  | _, _ => none

/-! ### Ranges over maps without entries -/
def opRange (h : H) : Option C → Option (V × H)
  | some .mnil => newPtr h (.iter none)
  | some (.map m) => match h.get m with
    | some (.map []) => newPtr h (.iter (some m))
    | _ => none
  | _ => none
def iterOf (h : H) : Option C → Option (Option Nat)
  | some (.ptr r 0) => match h.get r with
    | some (.iter m) => some m
    | _ => none
  | _ => none
def opNext (h : H) : Option (Option Nat) → Option (V × H)
  | some none => some (.tup [.c (.bool false)], h)
  | some (some m) => match h.get m with
    | some (.map []) => some (.tup [.c (.bool false)], h)
    | _ => none
  | none => none

/-! ### The rest -/
def opConvert (h : H) (s t : Option TI) (c : Option C) : Option (V × H) := match s, t, c with
  | some _, some td, some (.int _ n) => match td.desc with
    | .int k => some (.w (.c (wrapC k n)), h)
    | _ => none
  | some _, some td, some (.str s) => match td.desc with
    | .string => some (.w (.c (.str s)), h)
    | _ => none
  | _, _, _ => none

def ptrs : List W → Option (List (Option (Nat × Nat)))
  | [] => some []
  | .c (.ptr n o) :: l => match ptrs l with
    | none => none
    | some r => some (some (n, o) :: r)
  | .c .pnil :: l => match ptrs l with
    | none => none
    | some r => some (none :: r)
  | _ => none
def opMakeFunc (f : FuncId) (a b : Option (List W)) : Option C := match a, b with
  | some a, some b => match ptrs a, ptrs b with
    | some a', some b' => some (.fn f a' b')
    | _, _ => none
  | _, _ => none
def opNilCheck : Option C → Option C
  | some (.ptr n off) => some (.ptr n off)
  | some (.fn f a b) => some (.fn f a b)
  | some (.yield l) => some (.yield l)
  | _ => none
def opPick (K : Cfg) (ts : Tmps) (a b : Operand) : Option C → Option V
  | some (.bool true) => evalO K ts a
  | some (.bool false) => evalO K ts b
  | _ => none
def opExtract (i : Nat) : Option V → Option W
  | some (.tup l) => l[i]?
  | _ => none
def opLen (K : Cfg) (h : H) (t : TypeId) (x : W) : Option C := match x with
  | .c (.str s) => some (.int .i64 s.length)
  | .c .snil => some (.int .i64 0)
  | .c (.slice _ _ n _) => some (.int .i64 n)
  | .c .mnil => some (.int .i64 0)
  | .c (.map n) => match h.get n with
    | some (.map es) => some (.int .i64 es.length)
    | _ => none
  | _ => match K.types.get t with
    | some ti => match ti.desc with
      | .array n _ => some (.int .i64 n)
      | _ => none
    | none => none
/-- the type of a value fits what len is asked of -/
def lenFits (K : Cfg) (t : TypeId) (x : W) : Bool := match K.types.get t with
  | some ti => match ti.desc, x with
    | .string, .c (.str _) => true
    | .slice _, .c .snil => true
    | .slice _, .c (.slice _ _ _ _) => true
    | .map _ _, .c .mnil => true
    | .map _ _, .c (.map _) => true
    | .array _ _, .g _ => true
    | _, _ => false
  | none => false
/-- does a type fit what is appended or copied? -/
def srcFits (K : Cfg) (t : TypeId) (x : C) : Bool := match K.types.get t with
  | some ti => match ti.desc, x with
    | .string, .str _ => true
    | .slice _, .snil => true
    | .slice _, .slice _ _ _ _ => true
    | _, _ => false
  | none => false
def opBuiltin (K : Cfg) (h : H) (b : Builtin) (tys : List TypeId) (args : Option (List W)) : Option (V × H) := match b, tys, args with
  | .len, [t], some [x] => bif lenFits K t x then outC h (opLen K h t x) else none
  | .append, [t, t'], some [.c s, .c x] => bif srcFits K t' x then opAppend h (elemTI K t) s x else none
  | .delete, [t, _], some [.c m, k] => opDelete K h (mapTI K t) m k
  | .min, _, some [.c (.int k a), .c (.int _ b)] => some (.w (.c (.int k (if b < a then b else a))), h)
  | .max, _, some [.c (.int k a), .c (.int _ b)] => some (.w (.c (.int k (if b > a then b else a))), h)
  | _, _, _ => none

def opMakeFuncF (K : Cfg) (ts : Tmps) (first caps : Array Operand) : Fn → Option C
  | .func f => opMakeFunc f (evalWs K ts first.toList) (evalWs K ts caps.toList)
  | _ => none
def opMakeMapH (h : H) (mt : Option (TypeId × TypeId)) (c : Option C) : Option (V × H) := match mt, c with
  | some _, some (.int _ _) => opMakeMap h
  | _, _ => none
def opMakeMapR (K : Cfg) (ts : Tmps) (h : H) (t : TypeId) : Option Operand → Option (V × H)
  | none => opMakeMap h
  | some x => opMakeMapH h (mapTI K t) (evalC K ts x)
def opSliceM (K : Cfg) (ts : Tmps) (h : H) (t : TypeId) (x : Operand) (lo hi : Option Operand) : Option Operand → Option C
  | none => opSlice K h (K.types.get t) (evalC K ts x) (optC K ts lo) (optC K ts hi)
  | some m => opSlice3 K (K.types.get t) (evalC K ts x) (optC K ts lo) (optC K ts hi) (optC K ts (some m))
def opRangeT (h : H) (c : Option C) : Option (TypeId × TypeId) → Option (V × H)
  | some _ => opRange h c
  | none => none
def opNextB (h : H) (c : Option C) : Bool → Option (V × H)
  | false => opNext h (iterOf h c)
  | true => none
def opCallB (K : Cfg) (ts : Tmps) (h : H) (args : Array Operand) (tys : Array TypeId) : Callee → Option (V × H)
  | .builtin b => opBuiltin K h b tys.toList (evalWs K ts args.toList)
  | _ => none

/-- An operation other than a call of a function; a recursor, for the kernel's sake. -/
def evOp (K : Cfg) (ts : Tmps) (h : H) (op : Op) : Option (V × H) :=
  Op.rec (motive := fun _ => Cfg → Tmps → H → Option (V × H))
    (fun x K ts h => outV h (evalO K ts x)) -- move
    (fun x K ts h => outV h (evalO K ts x)) -- assign
    (fun c a b K ts h => outV h (opPick K ts a b (evalC K ts c)))
    (fun t K _ h => opAlloc h (K.types.get t))
    (fun _ x K ts h => opBox h (evalW K ts x))
    (fun t parts K ts h => outW h (opBuild K t (evalParts K ts parts.toList)))
    (fun t len parts K ts h => opBuildSlice h len (elemTI K t) (evalParts K ts parts.toList))
    (fun _ _ _ _ _ _ _ => none) -- insert
    (fun t a K ts h => opLoad K h t (evalC K ts a))
    (fun t a x K ts h => opStore K h t (evalC K ts a) (evalW K ts x))
    (fun _ _ _ _ => none) -- ready
    (fun _ _ _ _ => none) -- waits
    (fun x K ts h => outC h (opNilCheck (evalC K ts x)))
    (fun op t x y _ K ts h => outC h (binop K op t (evalW K ts x) (evalW K ts y)))
    (fun op _ x K ts h => outC h (unop op (evalC K ts x)))
    (fun src dst x K ts h => opConvert h (K.types.get src) (K.types.get dst) (evalC K ts x))
    (fun _ _ _ _ _ => none) -- sliceToArrayPointer
    (fun _ _ _ _ _ => none) -- makeInterface
    (fun fn first caps K ts h => outC h (opMakeFuncF K ts first caps fn))
    (fun t r K ts h => opMakeMapR K ts h t r)
    (fun _ _ _ _ _ => none) -- makeChan
    (fun t len cap K ts h => opMakeSlice h (elemTI K t) (natOf (evalC K ts len)) (natOf (evalC K ts cap)))
    (fun t x lo hi m K ts h => outC h (opSliceM K ts h t x lo hi m))
    (fun t x f K ts h => outC h (opFieldAddr (evalC K ts x) (fieldOf K t f)))
    (fun t x f K ts h => outW h (opField (evalW K ts x) (fieldOf K t f)))
    (fun t x i K ts h => outC h (opIndexAddr K (K.types.get t) (evalC K ts x) (natOf (evalC K ts i))))
    (fun t x i K ts h => outW h (opIndex K (K.types.get t) (evalW K ts x) (natOf (evalC K ts i))))
    (fun t x k ok K ts h => opLookup K h (mapTI K t) (evalC K ts x) (evalW K ts k) ok)
    (fun t m k v K ts h => opMapUpdate K h (mapTI K t) (evalC K ts m) (evalW K ts k) (evalW K ts v))
    (fun _ _ _ _ _ _ => none) -- mapEntry
    (fun _ _ _ _ _ _ _ => none) -- entryStore
    (fun t x K ts h => opRangeT h (evalC K ts x) (mapTI K t))
    (fun x b K ts h => opNextB h (evalC K ts x) b)
    (fun _ _ _ _ => none) -- entry
    (fun _ _ _ _ _ _ _ => none) -- typeAssert
    (fun x i K ts h => outW h (opExtract i (evalO K ts x)))
    (fun c K ts h => opCallB K ts h c.args c.argTypes c.callee)
    (fun _ _ _ _ => none) -- go
    (fun _ _ _ _ => none) -- defer
    (fun _ _ _ _ => none) -- panic
    (fun _ _ _ _ _ => none) -- send
    (fun _ _ _ _ _ _ => none) -- recv
    (fun _ _ _ _ _ => none) -- select
    op K ts h

/-! ### Control -/
inductive X where
  | normal
  | exit (id : Nat)
  | ret
  deriving Inhabited

def putT (n : Nat) (ts : Tmps) (d : Option Tmp) (v : V) : Option Tmps := match d with
  | none => some ts
  | some d => bif Nat.blt d n then some (ts.set d v) else none

def yieldedB (ts : Tmps) : Option Oper → Option Bool
  | some oj => match oj.dst with
    | some d => match ts.get d with
      | some (.w (.c (.bool b))) => some b
      | _ => none
    | none => none
  | none => none
def wantedB (ops : List Oper) (ts : Tmps) : Option (Nat × Bool) → Bool
  | none => true
  | some (j, want) => match yieldedB ts ops[j]? with
    | some b => b == want
    | none => false

def argTmps : Nat → List W → Tmps → Tmps
  | _, [], t => t
  | i, v :: l, t => argTmps (i + 1) l (t.set i (.w v))

def resultsOf (K : Cfg) (h : H) (ts : Tmps) : List ResultVar → Option (List W)
  | [] => some []
  | .tmp t :: l => match evalW K ts (.tmp t) with
    | none => none
    | some v => match resultsOf K h ts l with
      | none => none
      | some vs => some (v :: vs)
  | .cell a ty :: l => match evalC K ts (.tmp a) with
    | some (.ptr n off) => match load K h ty n off with
      | none => none
      | some v => match resultsOf K h ts l with
        | none => none
        | some vs => some (v :: vs)
    | _ => none
def resultOf : List W → V
  | [v] => .w v
  | l => .tup l

def insI (a : Int) : List Int → List Int
  | [] => [a]
  | b :: l => if a ≤ b then a :: b :: l else b :: insI a l
def keyFits (a : Int) : Bool := decide (-9223372036854775808 ≤ a) && decide (a ≤ 9223372036854775807)
def sortedKeys : List (W × W) → Option (List Int)
  | [] => some []
  | (.c (.int .i64 a), _) :: l => bif keyFits a then (match sortedKeys l with
    | none => none
    | some r => some (insI a r)) else none
  | _ => none

inductive Task where
  /-- a function's call -/
  | call (f : FuncId) (args : List W) (h : H)
  /-- code, in a frame of n slots; rd: the round it is in; ds: the marks among its deferred calls -/
  | code (c : Code) (n : Nat) (rd : Option Nat) (ds : List Nat) (ts : Tmps) (h : H)

inductive Out where
  | val (v : V) (h : H)
  | at (x : X) (ds : List Nat) (ts : Tmps) (h : H)

def ptrW : Option (Nat × Nat) → W
  | some p => .c (.ptr p.1 p.2)
  | none => .c .pnil
def callArgs (args : List W) (first caps : List (Option (Nat × Nat))) : List W := first.map ptrW ++ args ++ caps.map ptrW

def zipParams (n : Nat) : List Tmp → List W → Tmps → Option Tmps
  | [], [], ts => some ts
  | t :: ps, v :: vs, ts => bif Nat.blt t n then zipParams n ps vs (ts.set t (.w v)) else none
  | _, _, _ => none

/-- the code of a jump out of a round -/
def jumpOf : X → Option Code
  | .normal => none
  | .exit id => some (.exit id)
  | .ret => some .ret
def isNormal : X → Bool
  | .normal => true
  | _ => false
def stateOf : X → LoopState
  | .normal => .ready
  | _ => .done

def sortedRow (h : H) : Option (List Int) → Option Out
  | some [] => some (.val (.w (.c .snil)) h)
  | some l => bif Nat.ble l.length 1000000 then some (.val (.w (.c (.slice h.next 0 l.length 1))) (h.new (.row 1 (l.map fun i => [.int .i64 i]) false))) else none
  | none => none
def sortedOf (h : H) : Option C → Option Out
  | some .mnil => some (.val (.w (.c .snil)) h)
  | some (.map n) => match h.get n with
    | some (.map es) => sortedRow h (sortedKeys es)
    | _ => none
  | _ => none
def opSorted (K : Cfg) (h : H) : List W → Option Out
  | [.c (.fn g [] [some (a, o)])] => bif K.keys.contains g then
      match h.get a with
      | some (.row sz els _) => sortedOf h (read1 sz els o)
      | _ => none
    else none
  | _ => none
def opClone (h : H) : List W → Option Out
  | [.c .mnil] => some (.val (.w (.c .mnil)) h)
  | [.c (.map n)] => match h.get n with
    | some (.map es) => some (.val (.w (.c (.map h.next))) (h.new (.map es)))
    | _ => none
  | _ => none

/-- the marks are taken -/
def takeMarks : List Nat → H → Option H
  | [], h => some h
  | d :: ds, h => match h.get d with
    | some .defers => takeMarks ds (h.del d)
    | _ => none
def finish (K : Cfg) (fn : Func) (ts : Tmps) : Option H → Option Out
  | some h => match resultsOf K h ts fn.results.toList with
    | some vs => some (.val (resultOf vs) h)
    | none => none
  | none => none
def leave (K : Cfg) (fn : Func) : Option Out → Option Out
  | some (.at .normal ds ts h) => finish K fn ts (takeMarks ds h)
  | some (.at .ret ds ts h) => finish K fn ts (takeMarks ds h)
  | _ => none
def enter (K : Cfg) (ev : Task → Option Out) (args : List W) (h : H) : Option Func → Option Out
  | some fn => match fn.body with
    | some body => bif Nat.ble args.length fn.ntmps then leave K fn (ev (.code body fn.ntmps none [] (argTmps 0 args .nil) h)) else none
    | none => none
  | none => none
def evCall (K : Cfg) (ev : Task → Option Out) (f : FuncId) (args : List W) (h : H) : Option Out :=
  bif K.clones.contains f then opClone h args
  else match K.sorted.lookup f with
    | some _ => opSorted K h args
    | none => enter K ev args h (K.funcs.get f)

def thenCode (ev : Task → Option Out) (b : Code) (n : Nat) (rd : Option Nat) : Option Out → Option Out
  | some (.at .normal ds ts h) => ev (.code b n rd ds ts h)
  | r => r
def inBlock (id : Nat) : Option Out → Option Out
  | some (.at (.exit id') ds ts h) => bif Nat.beq id' id then some (.at .normal ds ts h) else some (.at (.exit id') ds ts h)
  | r => r
def evCond (ev : Task → Option Out) (a b : Code) (n : Nat) (rd : Option Nat) (ds : List Nat) (ts : Tmps) (h : H) : Option C → Option Out
  | some (.bool true) => ev (.code a n rd ds ts h)
  | some (.bool false) => ev (.code b n rd ds ts h)
  | _ => none
def pending (ds : List Nat) (ts : Tmps) (h : H) : Option Code → Option Out
  | none => some (.at .normal ds ts h)
  | some (.exit id) => some (.at (.exit id) ds ts h)
  | some .ret => some (.at .ret ds ts h)
  | _ => none
def endLoop (ds : List Nat) (ts : Tmps) (l : Nat) : Option Out → Option Out
  | some (.val _ h) => match h.get l with
    | some (.loop ts' n' ps as bd st pend d) => match st with
      | .busy => none
      | _ => pending ds ts (h.put l (.loop ts' n' ps as bd .exhausted pend d)) pend
    | _ => none
  | _ => none
def evRange2 (ev : Task → Option Out) (ps : List Tmp) (assign body : Code) (n : Nat) (ds : List Nat) (ts : Tmps) (f : FuncId) (first caps : List (Option (Nat × Nat))) (d : Nat) (h : H) : Option Out :=
  endLoop ds ts h.next (ev (.call f (callArgs [.c (.yield h.next)] first caps) (h.new (.loop ts n ps assign body .ready none d))))
def evRange1 (ev : Task → Option Out) (ps : List Tmp) (assign body : Code) (n : Nat) (rd : Option Nat) (ds : List Nat) (ts : Tmps) (h : H) (f : FuncId) (first caps : List (Option (Nat × Nat))) : Option Out := match rd with
  | none => evRange2 ev ps assign body n (h.next :: ds) ts f first caps h.next (h.new .defers)
  | some l => match h.get l with
    | some (.loop _ _ _ _ _ _ _ d) => evRange2 ev ps assign body n ds ts f first caps d h
    | _ => none
def evRange (ev : Task → Option Out) (ps : List Tmp) (assign body : Code) (n : Nat) (rd : Option Nat) (ds : List Nat) (ts : Tmps) (h : H) : Option C → Option Out
  | some (.fn f first caps) => evRange1 ev ps assign body n rd ds ts h f first caps
  | _ => none

def endRound (l : Nat) : Option Out → Option Out
  | some (.at x _ _ h) => match h.get l with
    | some (.loop ts n ps as bd .busy _ d) => some (.val (.w (.c (.bool (isNormal x)))) (h.put l (.loop ts n ps as bd (stateOf x) (jumpOf x) d)))
    | _ => none
  | _ => none
def midRound (ev : Task → Option Out) (l : Nat) (body : Code) (n : Nat) : Option Out → Option Out
  | some (.at .normal ds ts h) => match h.get l with
    | some (.loop ts' n' ps as bd .ready pend d) => endRound l (ev (.code body n (some l) ds ts (h.put l (.loop ts' n' ps as bd .busy pend d))))
    | _ => none
  | _ => none
def evRound (ev : Task → Option Out) (l : Nat) (args : Option (List W)) (h : H) : Option O → Option Out
  | some (.loop lts n ps assign body _ _ _) => match args with
    | some as => match zipParams n ps as lts with
      | some ts => midRound ev l body n (ev (.code assign n (some l) [] ts h))
      | none => none
    | none => none
  | _ => none
def evCallOp (ev : Task → Option Out) (h : H) (args : Option (List W)) : Option C → Option Out
  | some (.fn f first caps) => match args with
    | some as => ev (.call f (callArgs as first caps) h)
    | none => none
  | some (.yield l) => evRound ev l args h (h.get l)
  | _ => none
def outVH : Option Out → Option (V × H)
  | some (.val v h) => some (v, h)
  | _ => none
def isCall (op : Op) : Option Call :=
  Op.rec (motive := fun _ => Option Call)
    (fun _ => none)
    (fun _ => none)
    (fun _ _ _ => none)
    (fun _ => none)
    (fun _ _ => none)
    (fun _ _ => none)
    (fun _ _ _ => none)
    (fun _ _ _ _ => none)
    (fun _ _ => none)
    (fun _ _ _ => none)
    (fun _ => none)
    (fun _ => none)
    (fun _ => none)
    (fun _ _ _ _ _ => none)
    (fun _ _ _ => none)
    (fun _ _ _ => none)
    (fun _ _ => none)
    (fun _ _ => none)
    (fun _ _ _ => none)
    (fun _ _ => none)
    (fun _ _ => none)
    (fun _ _ _ => none)
    (fun _ _ _ _ _ => none)
    (fun _ _ _ => none)
    (fun _ _ _ => none)
    (fun _ _ _ => none)
    (fun _ _ _ => none)
    (fun _ _ _ _ => none)
    (fun _ _ _ _ => none)
    (fun _ _ _ => none)
    (fun _ _ _ _ => none)
    (fun _ _ => none)
    (fun _ _ => none)
    (fun _ => none)
    (fun _ _ _ _ => none)
    (fun _ _ => none)
    (fun c => some c)
    (fun _ => none)
    (fun _ => none)
    (fun _ => none)
    (fun _ _ => none)
    (fun _ _ _ => none)
    (fun _ _ => none)
    op
def evCallee (K : Cfg) (ev : Task → Option Out) (ts : Tmps) (h : H) (args : Array Operand) (tys : Array TypeId) : Callee → Option (V × H)
  | .value f => outVH (evCallOp ev h (evalWs K ts args.toList) (evalC K ts f))
  | .builtin b => opBuiltin K h b tys.toList (evalWs K ts args.toList)
  | _ => none
def evAnyC (K : Cfg) (ev : Task → Option Out) (ts : Tmps) (h : H) (op : Op) : Option Call → Option (V × H)
  | some c => evCallee K ev ts h c.args c.argTypes c.callee
  | none => evOp K ts h op
/-- an operation, calls too -/
def evAny (K : Cfg) (ev : Task → Option Out) (ts : Tmps) (h : H) (op : Op) : Option (V × H) := evAnyC K ev ts h op (isCall op)
def putTH (n : Nat) (ts : Tmps) (d : Option Tmp) : Option (V × H) → Option (Tmps × H)
  | some (v, h) => match putT n ts d v with
    | some ts' => some (ts', h)
    | none => none
  | none => none
/-- one operation of a region, if it is wanted -/
def evOne (K : Cfg) (ev : Task → Option Out) (all : List Oper) (n : Nat) (ts : Tmps) (h : H) (o : Oper) : Option (Tmps × H) :=
  bif wantedB all ts o.guard then putTH n ts o.dst (evAny K ev ts h o.op) else putTH n ts o.dst (some (undef, h))
def evOps (K : Cfg) (ev : Task → Option Out) (all : List Oper) (n : Nat) (l : List Oper) (ts : Tmps) (h : H) : Option (Tmps × H) :=
  List.rec (motive := fun _ => Cfg → (Task → Option Out) → List Oper → Nat → Tmps → H → Option (Tmps × H))
    (fun _ _ _ _ ts h => some (ts, h))
    (fun o _ ih K ev all n ts h => Option.rec none (fun p => ih K ev all n p.1 p.2) (evOne K ev all n ts h o))
    l K ev all n ts h
def outAt (ds : List Nat) : Option (Tmps × H) → Option Out
  | some (ts, h) => some (.at .normal ds ts h)
  | none => none

/-! ### Regions that draw their order -/
inductive Kd where
  | pure
  | read
  | alloc
  | eff
  deriving DecidableEq
def kdCall : Callee → Kd
  | .builtin .len => .read
  | .builtin .min => .read
  | .builtin .max => .read
  | _ => .eff
def kd : Op → Kd
  | .move _ => .pure
  | .assign _ => .pure
  | .pick _ _ _ => .pure
  | .nilCheck _ => .pure
  | .binOp _ _ _ _ _ => .pure
  | .unOp _ _ _ => .pure
  | .convert _ _ _ => .pure
  | .makeFunc _ _ _ => .pure
  | .fieldAddr _ _ _ => .pure
  | .field _ _ _ => .pure
  | .indexAddr _ _ _ => .pure
  | .index _ _ _ => .pure
  | .extract _ _ => .pure
  | .build _ _ => .pure
  | .load _ _ => .read
  | .lookup _ _ _ _ => .read
  | .slice _ _ _ _ _ => .read
  | .alloc _ => .alloc
  | .box _ _ => .alloc
  | .makeMap _ _ => .alloc
  | .makeSlice _ _ _ => .alloc
  | .buildSlice _ _ _ => .alloc
  | .call c => kdCall c.callee
  | _ => .eff

/-- what was done: a read: its number, its slots, its operation, what it gave -/
structure Rd where
  i : Nat
  ts : Tmps
  op : Op
  v : V
/-- an effect: its number, memory behind the effect before it, and behind it -/
structure Ef where
  i : Nat
  a : H
  b : H
structure Dr where
  ts : Tmps
  hb : H
  hc : H
  rds : List Rd
  efs : List Ef

def drPut (n : Nat) (ts : Tmps) (d : Option Tmp) (v : V) (hb hc : H) (rds : List Rd) (efs : List Ef) : Option Dr := match putT n ts d v with
  | some ts' => some ⟨ts', hb, hc, rds, efs⟩
  | none => none
def drRead (n i : Nat) (o : Oper) (ts1 : Tmps) (s : Dr) : Option (V × H) → Option Dr
  | some (v, _) => drPut n s.ts o.dst v s.hb s.hc (⟨i, ts1, o.op, v⟩ :: s.rds) s.efs
  | none => none
def drPure (n : Nat) (o : Oper) (s : Dr) : Option (V × H) → Option Dr
  | some (v, _) => drPut n s.ts o.dst v s.hb s.hc s.rds s.efs
  | none => none
def drAlloc (n : Nat) (o : Oper) (s : Dr) : Option (V × H) → Option Dr
  | some (v, h) => drPut n s.ts o.dst v s.hb h s.rds s.efs
  | none => none
/-- the slots that an operation looks at -/
def tmpOf : Operand → Option Tmp
  | .tmp t => some t
  | _ => none
def looks (ops : List Oper) (o : Oper) : List Tmp := o.op.operands.toList.filterMap tmpOf ++ (match o.guard with
  | some (g, _) => (match ops[g]? with
    | some og => og.dst.toList
    | none => [])
  | none => [])
def cutT (ts : Tmps) : List Tmp → Tmps
  | [] => Tree.nil
  | t :: l => (cutT ts l).set t (evalT ts t)
def drEff (n i : Nat) (o : Oper) (s : Dr) : Option (V × H) → Option Dr
  | some (v, h) => bif Nat.ble s.hc.next h.next then drPut n s.ts o.dst v h h s.rds (⟨i, s.hb, h⟩ :: s.efs) else none
  | none => none
def drKd (K : Cfg) (ev : Task → Option Out) (n i : Nat) (o : Oper) (s : Dr) (ts1 : Tmps) : Kd → Option Dr
  | .pure => drPure n o s (evOp K ts1 s.hb o.op)
  | .read => drRead n i o ts1 s (evOp K ts1 s.hb o.op)
  | .alloc => drAlloc n o s (evOp K ts1 s.hc o.op)
  | .eff => drEff n i o s (evAny K ev ts1 s.hc o.op)
def drSkip (n i : Nat) (o : Oper) (s : Dr) : Kd → Option Dr
  | .eff => drEff n i o s (some (undef, s.hc))
  | _ => drPut n s.ts o.dst undef s.hb s.hc s.rds s.efs
def drTs (K : Cfg) (ev : Task → Option Out) (all : List Oper) (n i : Nat) (o : Oper) (s : Dr) (ts1 : Tmps) : Option Dr :=
  bif wantedB all ts1 o.guard then drKd K ev n i o s ts1 (kd o.op) else drSkip n i o s (kd o.op)
def drOne (K : Cfg) (ev : Task → Option Out) (all : List Oper) (n i : Nat) (o : Oper) (s : Dr) : Option Dr := drTs K ev all n i o s (cutT s.ts (looks all o))
def drAll (K : Cfg) (ev : Task → Option Out) (all : List Oper) (n : Nat) : Nat → List Oper → Dr → Option Dr
  | _, [], s => some s
  | i, o :: rest, s => match drOne K ev all n i o s with
    | some s' => drAll K ev all n (i + 1) rest s'
    | none => none

/-- does an operation wait for another? -/
def waits (o : Oper) (j : Nat) : Bool := o.after.toList.any fun e => Region.binds .any e && Nat.beq e.on j
def waitsAt (ops : List Oper) (i j : Nat) : Bool := match ops[i]? with
  | some o => waits o j
  | none => false
/-- edges lead back -/
def edgesOk : Nat → List Oper → Bool
  | _, [] => true
  | i, o :: l => (o.after.toList.all fun e => !Region.binds .any e || Nat.blt e.on i) && edgesOk (i + 1) l
/-- of two operations, i ahead of j: none writes what the other one looks at, unless j waits for i; they write apart -/
def slotsOk2 (ops : List Oper) (i : Nat) (oi oj : Oper) : Bool :=
  (match oi.dst, oj.dst with
   | some a, some b => !Nat.beq a b
   | _, _ => true) &&
  (waits oj i ||
    ((match oi.dst with
      | some a => !(looks ops oj).contains a
      | none => true) &&
     (match oj.dst with
      | some b => !(looks ops oi).contains b
      | none => true)))
def slotsOk1 (ops : List Oper) (oj : Oper) : Nat → List Oper → Bool
  | _, [] => true
  | i, oi :: l => slotsOk2 ops i oi oj && slotsOk1 ops oj (i + 1) l
def slotsOk (ops : List Oper) : Nat → List Oper → Bool
  | _, [] => true
  | j, oj :: l => slotsOk1 ops oj 0 (ops.take j) && slotsOk ops (j + 1) l
/-- effects: each waits for the one before it and for the allocs since -/
def chainOk : Nat → Option Nat → List Nat → List Oper → Bool
  | _, _, _, [] => true
  | i, e, al, o :: l => match kd o.op with
    | .eff => (match e with | some k => waits o k | none => true) && al.all (fun a => waits o a) && chainOk (i + 1) (some i) [] l
    | .alloc => chainOk (i + 1) e (i :: al) l
    | _ => chainOk (i + 1) e al l
def eqV : V → V → Bool
  | .w (.c a), .w (.c b) => eqCc a b
  | .w (.g a), .w (.g b) => eqL a b
  | .tup a, .tup b => eqT2 a b
  | _, _ => false
where
  eqP : List (Option (Nat × Nat)) → List (Option (Nat × Nat)) → Bool
    | [], [] => true
    | some (a, b) :: l, some (c, d) :: m => Nat.beq a c && Nat.beq b d && eqP l m
    | none :: l, none :: m => eqP l m
    | _, _ => false
  eqCc : C → C → Bool
    | .bool a, .bool b => a == b
    | .int k a, .int k' b => decide (k = k') && a == b
    | .str a, .str b => eqStr a b
    | .ptr a b, .ptr c d => Nat.beq a c && Nat.beq b d
    | .pnil, .pnil => true
    | .slice a b c d, .slice a' b' c' d' => Nat.beq a a' && Nat.beq b b' && Nat.beq c c' && Nat.beq d d'
    | .snil, .snil => true
    | .map a, .map b => Nat.beq a b
    | .mnil, .mnil => true
    | .fn f a b, .fn f' a' b' => Nat.beq f f' && eqP a a' && eqP b b'
    | .yield a, .yield b => Nat.beq a b
    | .nilFn, .nilFn => true
    | _, _ => false
  eqL : List C → List C → Bool
    | [], [] => true
    | a :: l, b :: m => eqCc a b && eqL l m
    | _, _ => false
  eqT2 : List W → List W → Bool
    | [], [] => true
    | .c a :: l, .c b :: m => eqCc a b && eqT2 l m
    | .g a :: l, .g b :: m => eqL a b && eqT2 l m
    | _, _ => false
def gives (v : V) : Option (V × H) → Bool
  | some (u, _) => eqV u v
  | none => false
/-- a read gives the same ahead of an effect and behind it, unless they are ordered -/
def stable (K : Cfg) (ops : List Oper) (e : Ef) (r : Rd) : Bool :=
  waitsAt ops r.i e.i || waitsAt ops e.i r.i || (gives r.v (evOp K r.ts e.a r.op) && gives r.v (evOp K r.ts e.b r.op))
def stables (K : Cfg) (ops : List Oper) (rds : List Rd) : List Ef → Bool
  | [] => true
  | e :: l => rds.all (stable K ops e) && stables K ops rds l
def drEnd (K : Cfg) (ops : List Oper) : Option Dr → Option (Tmps × H)
  | some s => bif stables K ops s.rds s.efs then some (s.ts, s.hc) else none
  | none => none
def evDraw (K : Cfg) (ev : Task → Option Out) (ops : List Oper) (n : Nat) (ts : Tmps) (h : H) : Option (Tmps × H) :=
  bif edgesOk 0 ops && slotsOk ops 0 ops && chainOk 0 none [] ops then drEnd K ops (drAll K ev ops n 0 ops ⟨ts, h, h, [], []⟩) else none

def evCode (K : Cfg) (ev : Task → Option Out) (c : Code) (n : Nat) (rd : Option Nat) (ds : List Nat) (ts : Tmps) (h : H) : Option Out :=
  Code.rec (motive := fun _ => Cfg → (Task → Option Out) → Nat → Option Nat → List Nat → Tmps → H → Option Out)
    (fun _ _ _ _ ds ts h => some (.at .normal ds ts h)) -- skip
    (fun _ ops d K ev n _ ds ts h => outAt ds (Bool.rec (evOps K ev ops.toList n ops.toList ts h) (evDraw K ev ops.toList n ts h) d)) -- region
    (fun a b _ _ _ ev n rd ds ts h => thenCode ev b n rd (ev (.code a n rd ds ts h)))
    (fun c a b _ _ K ev n rd ds ts h => evCond ev a b n rd ds ts h (evalC K ts c))
    (fun id b _ _ ev n rd ds ts h => inBlock id (ev (.code b n rd ds ts h)))
    (fun b _ _ ev n rd ds ts h => thenCode ev (.loop b) n rd (ev (.code b n rd ds ts h)))
    (fun g ps assign body _ _ K ev n rd ds ts h => evRange ev ps.toList assign body n rd ds ts h (evalC K ts g))
    (fun id _ _ _ _ ds ts h => some (.at (.exit id) ds ts h))
    (fun _ _ _ _ _ _ _ _ _ => none) -- scope
    (fun _ _ _ _ _ ds ts h => some (.at .normal ds ts h)) -- label
    (fun _ _ _ _ _ _ _ _ => none) -- goto
    (fun _ _ _ _ ds ts h => some (.at .ret ds ts h)) -- ret
    (fun _ _ _ _ _ _ _ _ => none) -- refuse
    c K ev n rd ds ts h

def step (K : Cfg) (ev : Task → Option Out) (t : Task) : Option Out :=
  Task.rec (motive := fun _ => Cfg → (Task → Option Out) → Option Out)
    (fun f args h K ev => evCall K ev f args h)
    (fun c n rd ds ts h K ev => evCode K ev c n rd ds ts h)
    t K ev

def ev (K : Cfg) (f : Nat) : Task → Option Out :=
  Nat.rec (motive := fun _ => Task → Option Out) (fun _ => none) (fun _ ih => step K ih) f

end
end Go.Ev
