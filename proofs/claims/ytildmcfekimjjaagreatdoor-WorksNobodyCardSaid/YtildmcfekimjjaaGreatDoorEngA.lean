/- A deterministic evaluator of a program's code over an abstract heap, and how abstract heaps stand for worlds of the model; the laws of single operations, first part. No condition. -/
import GoSem.Claims
import Derived.Calls
import Derived.Laws.Entries
import Derived.Laws.Cells
import Derived.Laws.Strings
import Derived.ChangeKeysEq
import Derived.Laws.IdiomStrings

/- THE ENGINE, its hot parts: trees by binary keys, lists; written with the recursors, which the kernel runs fastest. -/
namespace Go.AX

/-! Keys: the natural numbers as paths: e = 0, l k = 2k + 1, r k = 2k + 2 -/
inductive K where
  | e
  | l (k : K)
  | r (k : K)

namespace K
noncomputable def beq (a : K) : K → Bool :=
  K.rec (fun b => K.casesOn b true (fun _ => false) (fun _ => false))
    (fun _ ih b => K.casesOn b false (fun k => ih k) (fun _ => false))
    (fun _ ih b => K.casesOn b false (fun _ => false) (fun k => ih k)) a
noncomputable def succ (a : K) : K := K.rec (.l .e) (fun k _ => .r k) (fun _ ih => .l ih) a
noncomputable def ofF (f : Nat) : Nat → K :=
  Nat.rec (fun _ => .e) (fun _ ih n => Bool.rec
    (Bool.rec (.r (ih (Nat.pred (Nat.div n (nat_lit 2))))) (.l (ih (Nat.div n (nat_lit 2)))) (Nat.beq (Nat.mod n (nat_lit 2)) (nat_lit 1)))
    .e (Nat.beq n (nat_lit 0))) f
noncomputable def of (n : Nat) : K := ofF (nat_lit 48) n
end K

inductive PT (α : Type) where
  | leaf
  | node (l : PT α) (v : Option α) (r : PT α)

namespace PT
variable {α : Type}
noncomputable def get (k : K) : PT α → Option α :=
  K.rec (fun t => PT.rec none (fun _ v _ _ _ => v) t) (fun _ ih t => PT.rec none (fun l _ _ _ _ => ih l) t)
    (fun _ ih t => PT.rec none (fun _ _ r _ _ => ih r) t) k
noncomputable def put (x : Option α) (k : K) : PT α → PT α :=
  K.rec (fun t => PT.rec (.node .leaf x .leaf) (fun l _ r _ _ => .node l x r) t)
    (fun _ ih t => PT.rec (.node (ih .leaf) none .leaf) (fun l v r _ _ => .node (ih l) v r) t)
    (fun _ ih t => PT.rec (.node .leaf none (ih .leaf)) (fun l v r _ _ => .node l v (ih r)) t) k
end PT

section lists
variable {α β : Type}
noncomputable def takeL (n : Nat) : List α → List α :=
  Nat.rec (fun _ => []) (fun _ ih l => List.rec [] (fun a t _ => a :: ih t) l) n
noncomputable def dropL (n : Nat) : List α → List α :=
  Nat.rec (fun l => l) (fun _ ih l => List.rec [] (fun _ t _ => ih t) l) n
noncomputable def appL (a b : List α) : List α := List.rec b (fun x _ ih => x :: ih) a
noncomputable def nthL (n : Nat) : List α → Option α :=
  Nat.rec (fun l => List.rec none (fun a _ _ => some a) l) (fun _ ih l => List.rec none (fun _ t _ => ih t) l) n
noncomputable def lenL (a : List α) : Nat := List.rec (nat_lit 0) (fun _ _ ih => Nat.succ ih) a
noncomputable def mapL (f : α → β) (a : List α) : List β := List.rec [] (fun x _ ih => f x :: ih) a
noncomputable def allL (p : α → Bool) (a : List α) : Bool := List.rec true (fun x _ ih => Bool.rec false ih (p x)) a
/-- The list with b laid over it from n on. -/
noncomputable def overL (n : Nat) (b : List α) : List α → List α :=
  Nat.rec (fun l => appL b (dropL (lenL b) l)) (fun _ ih l => List.rec b (fun a t _ => a :: ih t) l) n
end lists

end Go.AX

/- THE ENGINE: the program's code, compiled to a small form, and its deterministic evaluator over an abstract heap. Definitions only. -/
namespace Go.AX

/-! Abstract values: an address is a block's key and an offset in cells -/
inductive AV where
  | bool (b : Bool)
  | int (k : IntKind) (n : Int)
  | str (s : List Nat)
  | nilp
  | ptr (b : K) (o : Nat)
  | nils
  | slc (b : K) (o len cap : Nat)      -- a slice whose capacity is known
  | opn (b : K) (o len sz : Nat)       -- a slice that ends where its block's capacity ends, which is not known; its elements' size
  | nilm
  | map (r : K)
  | nilf
  | fn (f : FuncId) (first captured : List AV)
  | mth (name : String) (first : List AV)
  | yld (l : K)
  | nili
  | ifc (t : TypeId) (v : AV)
  | agg (n : Nat) (cs : List AV)
  | tup (vs : List AV)

def AV.und : AV := .tup []

structure TI where
  und : TypeDesc
  info : TypeInfo

/-- What compilation knows: the types, how many temporaries the function has, and how many package-level variables there are. -/
structure Cx where
  types : PT TI
  n : Nat
  g : Nat

/-- Whether the bytes of a block are shared with strings: no; not those of its cells; perhaps some of those that are known. -/
inductive Frz where
  | no | str | yes

inductive LState where
  | ready | busy | done | over

inductive AO where
  | t (k : K)
  | c (v : AV)

/-- Kinds of cells that are compared. -/
inductive EK where
  | int | bool | str

/-- Kinds of comparisons: of bools, of pointers, with nil, of arrays of cells. -/
inductive CK where
  | bool | ptr | slc | map | fn | arr (n : Nat) (e : EK) | ifn | no

/-- Kinds of keys. -/
inductive KK where
  | one (e : EK) | arr (n : Nat) (e : EK)

/-- Kinds of conversions. -/
inductive VK where
  | int (k : IntKind) | str | bs | sb (e : TypeId) | pu | up (e : TypeId) (n : Nat) | no

/-- Kinds of what is sliced. -/
inductive SK where
  | str | slc (sz : Nat) | arr (n sz : Nat) | no

inductive LK where
  | str | slc | map | const (n : Nat) | no

inductive Kind where
  | pure | read | fresh | effect

/-- The outcome of code. -/
inductive AExit where
  | normal
  | exit (id : Nat)
  | goto (l : Nat)
  | ret

inductive AObj where
  | cells (n s : Nat) (d : List AV) (cs : PT (List AV)) (e : TypeId) (opn : Bool) (frz : Frz)
  | map (es : List (AV × AV × Nat)) (clock : Nat)
  | mapIter (m : K) (since : Nat) (seen : List Nat) (stepped : Nat)
  | nilIter
  | strIter (s : List Nat) (pos : Nat)
  | loop (st : LState) (pending : AExit) (fn : FuncId) (tm : PT AV) (n : Nat) (params : List Tmp) (assign body : Code) (defers : K)
  | deferred (open_ : Bool)

structure Hp where
  objs : PT AObj
  next : K

inductive ANext where
  | value (v : AV)
  | call (f : AV) (args : List AV)
  | defer (f : AV) (args : List AV)
  | recover

/-- An operation, compiled. -/
inductive OpF where
  | v1 (f : AV → Option AV) (x : AO)
  | v2 (f : AV → AV → Option AV) (x y : AO)
  | h1 (f : AV → Hp → Option AV) (x : AO)
  | h2 (f : AV → AV → Hp → Option AV) (x y : AO)
  | e1 (f : AV → Hp → Option (AV × Hp)) (x : AO)
  | e2 (f : AV → AV → Hp → Option (AV × Hp)) (x y : AO)
  | s2 (f : AV → AV → Hp → Option Hp) (x y : AO)
  | s3 (f : AV → AV → AV → Hp → Option Hp) (x y z : AO)
  | mv (x : AO)
  | pick (c a b : AO)
  | new (e : TypeId) (s : Nat) (z : List AV)
  | bld (n : Nat) (z : List AV) (ps : List (Nat × Bool × Nat × AO))
  | bldS (e : TypeId) (s len : Nat) (z : List AV) (ps : List (Nat × Bool × AO))
  | slc (k : SK) (x : AO) (lo hi mx : Option AO)
  | minmax (lt : Int → Int → Bool) (x : AO) (r : List AO)
  | clr (z : List AV) (sz : Nat) (x : AO)
  | rcv
  | call (f : AO) (args : List AO)
  | inv (name : String) (r : AO) (args : List AO)
  | dfr (f : AO) (args : List AO)
  | mkF (f : FuncId) (a b : List AO)
  | mkMth (name : String) (a : List AO)
  | mkM
  | bad

/-! Evaluation -/
noncomputable def Hp.get (h : Hp) (b : K) : Option AObj := h.objs.get b
noncomputable def Hp.set (h : Hp) (b : K) (o : AObj) : Hp := ⟨h.objs.put (some o) b, h.next⟩
noncomputable def Hp.del (h : Hp) (b : K) : Hp := ⟨h.objs.put none b, h.next⟩
noncomputable def Hp.new (h : Hp) (o : AObj) : Hp := ⟨h.objs.put (some o) h.next, h.next.succ⟩

noncomputable def tmGet (tm : PT AV) (k : K) : AV := Option.rec AV.und (fun v => v) (tm.get k)

noncomputable def ev (tm : PT AV) (x : AO) : AV := AO.rec (fun k => tmGet tm k) (fun v => v) x

noncomputable def putT (tm : PT AV) (d : Option K) (v : AV) : PT AV := Option.rec tm (fun k => tm.put (some v) k) d

def isCell : AV → Bool
  | .agg _ _ | .tup _ => false
  | _ => true

noncomputable def chunk (d : List AV) (cs : PT (List AV)) (i : Nat) : List AV := match cs.get (K.of i) with | some c => c | none => d

/-- n cells at an offset, within one element. -/
noncomputable def getR (h : Hp) (b : K) (o n : Nat) : Option (List AV) :=
  match h.get b with
  | some (.cells m s d cs _ _ _) =>
    bif Nat.blt (Nat.div o s) m && Nat.ble (Nat.add (Nat.mod o s) n) s then
      bif Nat.beq n s then some (chunk d cs (Nat.div o s)) else some (takeL n (dropL (Nat.mod o s) (chunk d cs (Nat.div o s))))
    else none
  | _ => none

noncomputable def get1 (h : Hp) (b : K) (o : Nat) : Option AV :=
  match h.get b with
  | some (.cells m s d cs _ _ _) =>
    bif Nat.blt (Nat.div o s) m && Nat.blt 0 s then nthL (Nat.mod o s) (chunk d cs (Nat.div o s)) else none
  | _ => none

noncomputable def setR (h : Hp) (b : K) (o : Nat) (n : Nat) (vs : List AV) : Option Hp :=
  match h.get b with
  | some (.cells m s d cs e opn frz) => match frz with
    | .yes => none
    | _ => bif Nat.blt (Nat.div o s) m && Nat.ble (Nat.add (Nat.mod o s) n) s then
        some (h.set b (.cells m s d (cs.put (some (bif Nat.beq n s then vs else overL (Nat.mod o s) vs (chunk d cs (Nat.div o s)))) (K.of (Nat.div o s))) e opn frz))
      else none
  | _ => none

/-- The m elements of sz cells from an offset on. -/
noncomputable def chunksFrom (d : List AV) (cs : PT (List AV)) (m : Nat) : Nat → List (List AV) :=
  Nat.rec (fun _ => []) (fun _ ih i => chunk d cs i :: ih (Nat.succ i)) m

noncomputable def cutL (sz : Nat) (m : Nat) : List AV → List (List AV) :=
  Nat.rec (fun _ => []) (fun _ ih l => takeL sz l :: ih (dropL sz l)) m

noncomputable def getEs (h : Hp) (b : K) (o sz m : Nat) : Option (List (List AV)) :=
  match h.get b with
  | some (.cells n s d cs _ _ _) =>
    bif Nat.beq sz s then
      bif Nat.beq (Nat.mod o s) 0 && Nat.ble (Nat.add (Nat.div o s) m) n then some (chunksFrom d cs m (Nat.div o s)) else none
    else
      bif Nat.blt (Nat.div o s) n && Nat.ble (Nat.add (Nat.mod o s) (Nat.mul m sz)) s then some (cutL sz m (dropL (Nat.mod o s) (chunk d cs (Nat.div o s)))) else none
  | _ => none

noncomputable def putEs (cs : PT (List AV)) (l : List (List AV)) : Nat → PT (List AV) :=
  List.rec (fun _ => cs) (fun c _ ih i => (ih (Nat.succ i)).put (some c) (K.of i)) l

noncomputable def flatL (l : List (List AV)) : List AV := List.rec [] (fun c _ ih => appL c ih) l

noncomputable def setEs (h : Hp) (b : K) (o sz m : Nat) (l : List (List AV)) : Option Hp :=
  match h.get b with
  | some (.cells n s d cs e opn frz) => match frz with
    | .yes => none
    | _ => bif Nat.beq m 0 then some h else
      bif Nat.beq sz s then
        bif Nat.beq (Nat.mod o s) 0 && Nat.ble (Nat.add (Nat.div o s) m) n then some (h.set b (.cells n s d (putEs cs l (Nat.div o s)) e opn frz)) else none
      else
        bif Nat.blt (Nat.div o s) n && Nat.ble (Nat.add (Nat.mod o s) (Nat.mul m sz)) s then
          some (h.set b (.cells n s d (cs.put (some (overL (Nat.mod o s) (flatL l) (chunk d cs (Nat.div o s)))) (K.of (Nat.div o s))) e opn frz)) else none
  | _ => none

/-! Integers -/
def maxN : IntKind → Nat
  | .i8 => 127 | .i16 => 32767 | .i32 => 2147483647 | .i64 => 9223372036854775807
  | .u8 => 255 | .u16 => 65535 | .u32 => 4294967295 | .u64 => 18446744073709551615
noncomputable def inR (k : IntKind) (n : Int) : Bool := Int.casesOn n (fun m => Nat.ble m (maxN k)) (fun m => bif k.signed then Nat.ble m (maxN k) else false)
noncomputable def wrapK (k : IntKind) (n : Int) : Int := bif inR k n then n else k.wrap n
noncomputable def iltB (a b : Int) : Bool := decide (a < b)
noncomputable def ileB (a b : Int) : Bool := decide (a ≤ b)
noncomputable def ieqB (a b : Int) : Bool := decide (a = b)

/-- A number of bits, taken into its kind. -/
noncomputable def natBits (k : IntKind) (x : Int) : Nat := Int.casesOn x (fun m => Nat.mod m (Nat.pow 2 k.bits)) (fun m => Nat.sub (Nat.sub (Nat.pow 2 k.bits) 1) (Nat.mod m (Nat.pow 2 k.bits)))

noncomputable def shiftV (op : BinOp) (k : IntKind) (x y : Int) : Option AV :=
  bif iltB y 0 then none else
    match op with
    | .shl => some (.int k (wrapK k (Int.mul x (Int.ofNat (Nat.pow 2 (Nat.min y.toNat k.bits))))))
    | .shr => some (.int k (Int.casesOn x (fun m => Int.ofNat (Nat.div m (Nat.pow 2 (Nat.min y.toNat k.bits)))) (fun _ => x.fdiv (2 ^ (min y.toNat k.bits)))))
    | _ => none

noncomputable def eqS (a : List Nat) : List Nat → Bool :=
  List.rec (fun b => List.casesOn b true (fun _ _ => false)) (fun x _ ih b => List.casesOn b false (fun y t => bif Nat.beq x y then ih t else false)) a

noncomputable def ltS (a : List Nat) : List Nat → Bool :=
  List.rec (fun b => List.casesOn b false (fun _ _ => true))
    (fun x _ ih b => List.casesOn b false (fun y t => bif Nat.blt x y then true else bif Nat.beq x y then ih t else false)) a

noncomputable def strOp (op : BinOp) (x y : List Nat) : Option AV :=
  match op with
  | .add => bif Nat.ble (Nat.add (lenL x) (lenL y)) 9223372036854775807 then some (.str (appL x y)) else none
  | .eql => some (.bool (eqS x y))
  | .neq => some (.bool (!eqS x y))
  | .lss => some (.bool (ltS x y))
  | .leq => some (.bool (!ltS y x))
  | .gtr => some (.bool (ltS y x))
  | .geq => some (.bool (!ltS x y))
  | _ => none

noncomputable def eqE (ek : EK) (a b : AV) : Option Bool :=
  match ek, a, b with
  | .bool, .bool a, .bool b => some (a == b)
  | .int, .int k a, .int k' b => bif decide (k = k') then some (ieqB a b) else none
  | .str, .str a, .str b => some (eqS a b)
  | _, _, _ => none

noncomputable def eqEs (ek : EK) (a : List AV) : List AV → Option Bool :=
  List.rec (fun b => List.rec (some true) (fun _ _ _ => none) b)
    (fun x _ ih b => List.rec none (fun y t _ => match eqE ek x y with
      | some true => ih t
      | some false => some false
      | none => none) b) a

noncomputable def eqArr (n : Nat) (ek : EK) (x y : AV) : Option Bool :=
  match x, y with
  | .agg m a, .agg m' b => bif Nat.beq m n && Nat.beq m' n then eqEs ek a b else none
  | _, _ => none

/-- Whether a block is one whose addresses may be compared. -/
noncomputable def cmpOk (h : Hp) (b : K) : Bool :=
  match h.get b with
  | some (.cells _ _ _ _ _ _ .no) => true
  | _ => false

noncomputable def eqAt (h : Hp) (ck : CK) (x y : AV) : Option Bool :=
  match ck with
  | .bool => match x, y with
    | .bool a, .bool b => some (a == b)
    | _, _ => none
  | .arr n ek => eqArr n ek x y
  | .ptr => match x, y with
    | .nilp, .nilp => some true
    | .nilp, .ptr _ _ => some false
    | .ptr _ _, .nilp => some false
    | .ptr b o, .ptr b' o' => bif K.beq b b' then some (Nat.beq o o') else bif cmpOk h b && cmpOk h b' then some false else none
    | _, _ => none
  | .slc => match x, y with
    | .nils, .nils => some true
    | .nils, .slc .. => some false
    | .nils, .opn .. => some false
    | .slc .., .nils => some false
    | .opn .., .nils => some false
    | _, _ => none
  | .map => match x, y with
    | .nilm, .nilm => some true
    | .nilm, .map _ => some false
    | .map _, .nilm => some false
    | _, _ => none
  | .fn => match x, y with
    | .nilf, .nilf => some true
    | .nilf, .fn .. => some false
    | .fn .., .nilf => some false
    | _, _ => none
  | .ifn => match x, y with
    | .nili, .nili => some true
    | .nili, .ifc _ _ => some false
    | .ifc _ _, .nili => some false
    | _, _ => none
  | .no => none

/-- The integer operation of an operator. -/
noncomputable def arithF (op : BinOp) : IntKind → Int → Int → Option AV :=
  match op with
  | .add => fun k x y => some (.int k (wrapK k (Int.add x y)))
  | .sub => fun k x y => some (.int k (wrapK k (Int.sub x y)))
  | .mul => fun k x y => some (.int k (wrapK k (Int.mul x y)))
  | .quo => fun k x y => bif ieqB y 0 then none else some (.int k (wrapK k (Int.tdiv x y)))
  | .rem => fun k x y => bif ieqB y 0 then none else some (.int k (Int.tmod x y))
  | .and => fun k x y => some (.int k (wrapK k (Int.ofNat (Nat.land (natBits k x) (natBits k y)))))
  | .or => fun k x y => some (.int k (wrapK k (Int.ofNat (Nat.lor (natBits k x) (natBits k y)))))
  | .xor => fun k x y => some (.int k (wrapK k (Int.ofNat (Nat.xor (natBits k x) (natBits k y)))))
  | .eql => fun _ x y => some (.bool (ieqB x y))
  | .neq => fun _ x y => some (.bool (!ieqB x y))
  | .lss => fun _ x y => some (.bool (iltB x y))
  | .leq => fun _ x y => some (.bool (ileB x y))
  | .gtr => fun _ x y => some (.bool (iltB y x))
  | .geq => fun _ x y => some (.bool (ileB y x))
  | _ => fun _ _ _ => none

noncomputable def binInt (f : IntKind → Int → Int → Option AV) (x y : AV) : Option AV :=
  match x, y with
  | .int k a, .int k' b => bif decide (k = k') then f k a b else none
  | _, _ => none
noncomputable def binShift (op : BinOp) (x y : AV) : Option AV :=
  match x, y with
  | .int k a, .int _ b => shiftV op k a b
  | _, _ => none
noncomputable def binStr (op : BinOp) (x y : AV) : Option AV :=
  match x, y with
  | .str a, .str b => strOp op a b
  | _, _ => none
noncomputable def binEq (ck : CK) (neg : Bool) (x y : AV) (h : Hp) : Option AV :=
  match eqAt h ck x y with
  | some b => some (.bool (bif neg then !b else b))
  | none => none

noncomputable def unV (op : UnOp) (x : AV) : Option AV :=
  match op, x with
  | .neg, .int k n => some (.int k (wrapK k (Int.neg n)))
  | .xor, .int k n => some (.int k (wrapK k (Int.ofNat (Nat.xor (natBits k (if k.signed then -1 else k.max)) (natBits k n)))))
  | .not, .bool b => some (.bool !b)
  | _, _ => none

noncomputable def bytesOf (l : List AV) : Option (List Nat) :=
  List.rec (some []) (fun x _ ih => match x with
    | .int .u8 (.ofNat n) => (match ih with | some r => some (Nat.mod n 256 :: r) | none => none)
    | _ => none) l

noncomputable def cellsOf (s : List Nat) : List AV := mapL (fun n => .int .u8 (Int.ofNat n)) s
noncomputable def unitsOf (s : List Nat) : List (List AV) := mapL (fun n => [.int .u8 (Int.ofNat n)]) s

/-- A new slice of elements. -/
noncomputable def newS (h : Hp) (e : TypeId) (s : Nat) (l : List (List AV)) (opn : Bool) (frz : Frz) : Hp :=
  h.new (.cells (lenL l) s [] (putEs .leaf l 0) e opn frz)

noncomputable def convV (h : Hp) (vk : VK) (x : AV) : Option (AV × Hp) :=
  match vk, x with
  | .int k, .int _ n => some (.int k (wrapK k n), h)
  | .str, .str s => some (.str s, h)
  | .bs, .nils => some (.str [], h)
  | .bs, .slc b o len _ | .bs, .opn b o len _ => match getEs h b o 1 len with
    | some l => match bytesOf (flatL l) with
      | some s => some (.str s, h)
      | none => none
    | none => none
  | .sb e, .str s => bif Nat.ble (lenL s) 1048576 then some (.opn h.next 0 (lenL s) 1, newS h e 1 (unitsOf s) true .str) else none
  | .pu, .nilp => some (.nilp, h)
  | .up _ _, .nilp => some (.nilp, h)
  | .pu, .ptr b o => match h.get b with
    | some (.cells m s _ _ _ _ _) => bif Nat.blt o (Nat.mul m s) then some (.ptr b o, h) else none
    | _ => none
  | .up e n, .ptr b o => match h.get b with
    | some (.cells 1 s _ _ e' false _) => bif Nat.beq e e' && Nat.beq o 0 && Nat.beq s n then some (.ptr b o, h) else none
    | _ => none
  | _, _ => none

/-- The cells of a value of a type: an aggregate's cells, or the value itself. -/
noncomputable def cellsAs (ag : Bool) (n : Nat) (v : AV) : Option (List AV) :=
  match ag, v with
  | true, .agg m cs => bif Nat.beq m n then some cs else none
  | false, .agg _ _ | false, .tup _ => none
  | false, v => bif Nat.beq n 1 then some [v] else none
  | true, _ => none

noncomputable def layStep (tm : PT AV) (p : Nat × Bool × Nat × AO) (ih : List AV → Option (List AV)) (cs : List AV) : Option (List AV) :=
  match p with
  | (off, ag, n, x) => match cellsAs ag n (ev tm x) with
    | some vs => bif Nat.ble (Nat.add off n) (lenL cs) then ih (overL off vs cs) else none
    | none => none

noncomputable def layParts (tm : PT AV) (ps : List (Nat × Bool × Nat × AO)) : List AV → Option (List AV) :=
  List.rec (fun cs => some cs) (fun p _ ih => layStep tm p ih) ps

noncomputable def layElem (tm : PT AV) (s len : Nat) (p : Nat × Bool × AO) (ih : PT (List AV) → Option (PT (List AV))) (cs : PT (List AV)) : Option (PT (List AV)) :=
  match p with
  | (i, ag, x) => match cellsAs ag s (ev tm x) with
    | some vs => bif Nat.blt i len then ih (cs.put (some vs) (K.of i)) else none
    | none => none

noncomputable def layElems (tm : PT AV) (s len : Nat) (ps : List (Nat × Bool × AO)) : PT (List AV) → Option (PT (List AV)) :=
  List.rec (fun cs => some cs) (fun p _ ih => layElem tm s len p ih) ps

/-- A bound of a slice expression, from 0 to a limit. -/
noncomputable def boundV (x : Option AV) (dflt lim : Nat) : Option Nat :=
  match x with
  | none => some dflt
  | some a => match a with
    | .int _ (.ofNat i) => bif Nat.ble i lim then some i else none
    | _ => none

/-- The three bounds of a slice expression. -/
noncomputable def bounds (lo hi mx : Option AV) (len cap : Nat) : Option (Nat × Nat × Nat) :=
  match mx with
  | none => match boundV hi len cap with
    | some h => match boundV lo 0 h with
      | some l => some (l, h, cap)
      | none => none
    | none => none
  | some _ => match boundV mx 0 cap with
    | some m => match hi with
      | some _ => match boundV hi 0 m with
        | some h => match boundV lo 0 h with
          | some l => some (l, h, m)
          | none => none
        | none => none
      | none => none
    | none => none

/-- A slice with its three bounds. -/
noncomputable def cutAt (b : K) (o sz : Nat) (r : Option (Nat × Nat × Nat)) : Option AV :=
  match r with
  | some (l, h, m) => some (.slc b (bif Nat.beq m l then o else Nat.add o (Nat.mul l sz)) (Nat.sub h l) (Nat.sub m l))
  | none => none

noncomputable def sliceV (sk : SK) (x : AV) (lo hi mx : Option AV) : Option AV :=
  match sk, x with
  | .str, .str s => match mx with
    | none => match bounds lo hi none (lenL s) (lenL s) with
      | some (l, h, _) => some (.str (takeL (Nat.sub h l) (dropL l s)))
      | none => none
    | some _ => none
  | .slc sz, .opn b o len sz' => bif Nat.beq sz sz' then
      (match mx with
       | none => match bounds lo hi none len len with
         | some (l, h, _) => some (.opn b (Nat.add o (Nat.mul l sz)) (Nat.sub h l) sz)
         | none => none
       | some _ => bif Nat.beq len 0 then none else cutAt b o sz (bounds lo hi mx len len)) else none
  | .slc sz, .slc b o len cap => cutAt b o sz (bounds lo hi mx len cap)
  | .slc _, .nils => match bounds lo hi mx 0 0 with
    | some _ => some .nils
    | none => none
  | .arr n sz, .ptr b o => cutAt b o sz (bounds lo hi mx n n)
  | _, _ => none

noncomputable def idx (n : Nat) (i : AV) : Option Nat :=
  match i with
  | .int _ (.ofNat k) => bif Nat.blt k n then some k else none
  | _ => none

/-! Maps -/
noncomputable def keyEq (kk : KK) (a b : AV) : Option Bool :=
  match kk with
  | .one ek => eqE ek a b
  | .arr n ek => eqArr n ek a b

def keyOk (kk : KK) (k : AV) : Bool :=
  match kk, k with
  | .one .int, .int _ _ | .one .bool, .bool _ | .one .str, .str _ => true
  | .arr n _, .agg m _ => Nat.beq m n
  | _, _ => false

noncomputable def findK (kk : KK) (k : AV) (es : List (AV × AV × Nat)) : Nat → Option (Option (Nat × AV × Nat)) :=
  List.rec (fun _ => some none) (fun e _ ih i => match keyEq kk k e.1 with
    | some true => some (some (i, e.2.1, e.2.2))
    | some false => ih (Nat.succ i)
    | none => none) es

noncomputable def setNth {α : Type} (y : α) (n : Nat) : List α → List α :=
  Nat.rec (fun l => List.casesOn l [] (fun _ t => y :: t)) (fun _ ih l => List.casesOn l [] (fun a t => a :: ih t)) n
noncomputable def dropNth {α : Type} (n : Nat) : List α → List α :=
  Nat.rec (fun l => List.casesOn l [] (fun _ t => t)) (fun _ ih l => List.casesOn l [] (fun a t => a :: ih t)) n

noncomputable def lookupV (kk : KK) (h : Hp) (z x k : AV) (ok : Bool) : Option AV :=
  bif keyOk kk k then match x with
  | .nilm => some (bif ok then .tup [z, .bool false] else z)
  | .map r => match h.get r with
    | some (.map es _) => match findK kk k es 0 with
      | some (some (_, v, _)) => some (bif ok then .tup [v, .bool true] else v)
      | some none => some (bif ok then .tup [z, .bool false] else z)
      | none => none
    | _ => none
  | _ => none
  else none

noncomputable def mapSet (kk : KK) (h : Hp) (m k v : AV) : Option Hp :=
  bif keyOk kk k then match m with
  | .map r => match h.get r with
    | some (.map es clock) => match findK kk k es 0 with
      | some (some (i, _, born)) => some (h.set r (.map (setNth (k, v, born) i es) clock))
      | some none => some (h.set r (.map (appL es [(k, v, clock)]) (Nat.succ clock)))
      | none => none
    | _ => none
  | _ => none
  else none

noncomputable def mapEntryV (kk : KK) (h : Hp) (z m k : AV) : Option (AV × Hp) :=
  bif keyOk kk k then match m with
  | .map r => match h.get r with
    | some (.map es clock) => match findK kk k es 0 with
      | some (some (i, v, born)) => some (.tup [v, .int .i64 (Int.ofNat born)], h.set r (.map (setNth (k, v, born) i es) clock))
      | some none => some (.tup [z, .int .i64 (Int.ofNat clock)], h.set r (.map (appL es [(k, z, clock)]) (Nat.succ clock)))
      | none => none
    | _ => none
  | _ => none
  else none

noncomputable def findBorn (b : Nat) (es : List (AV × AV × Nat)) : Nat → Option (Nat × AV) :=
  List.rec (fun _ => none) (fun e _ ih i => bif Nat.beq e.2.2 b then some (i, e.1) else ih (Nat.succ i)) es

noncomputable def entryStoreV (h : Hp) (m s v : AV) : Option Hp :=
  match m, s with
  | .map r, .int _ (.ofNat born) => match h.get r with
    | some (.map es clock) => match findBorn born es 0 with
      | some (i, k) => some (h.set r (.map (setNth (k, v, born) i es) clock))
      | none => none
    | _ => none
  | _, _ => none

noncomputable def deleteV (kk : KK) (h : Hp) (m k : AV) : Option Hp :=
  bif keyOk kk k then match m with
  | .map r => match h.get r with
    | some (.map es clock) => match findK kk k es 0 with
      | some (some (i, _, _)) => some (h.set r (.map (dropNth i es) clock))
      | some none => some (h.set r (.map es clock))
      | none => none
    | _ => none
  | _ => none
  else none

noncomputable def memN (n : Nat) (l : List Nat) : Bool := List.rec false (fun x _ ih => bif Nat.beq n x then true else ih) l
noncomputable def filtL {α : Type} (p : α → Bool) (l : List α) : List α := List.rec [] (fun x _ ih => bif p x then x :: ih else ih) l
noncomputable def lastL {α : Type} (l : List α) : Option α := List.rec none (fun x _ ih => match ih with | some y => some y | none => some x) l

noncomputable def nextV (h : Hp) (it : AV) (isStr : Bool) : Option (AV × Hp) :=
  match it with
  | .ptr r 0 => match h.get r, isStr with
    | some (.strIter s pos), true => match dropL pos s with
      | [] => some (.tup [.bool false], h)
      | c :: _ => bif Nat.blt c 128 then some (.tup [.bool true, .int .i64 (Int.ofNat pos), .int .i32 (Int.ofNat c)], h.set r (.strIter s (Nat.succ pos))) else none
    | some .nilIter, false => some (.tup [.bool false], h)
    | some (.mapIter m since seen stepped), false => match h.get m with
      | some (.map es clock) =>
        bif Nat.ble since stepped && allL (fun e => Nat.blt e.2.2 since) es then
          match filtL (fun e => !memN e.2.2 seen) es with
          | [] => some (.tup [.bool false], h)
          | [e] => some (.tup [.bool true, e.1, e.2.1], h.set r (.mapIter m since (appL seen [e.2.2]) clock))
          | _ => none
        else none
      | _ => none
    | _, _ => none
  | _ => none

noncomputable def entryV (h : Hp) (it : AV) : Option AV :=
  match it with
  | .ptr r 0 => match h.get r with
    | some (.mapIter m _ seen stepped) => match h.get m, lastL seen with
      | some (.map es clock), some stamp => bif Nat.beq clock stepped then
          match filtL (fun e => Nat.beq e.2.2 stamp) es with
          | e :: _ => some (.tup [e.1, e.2.1])
          | [] => none
        else none
      | _, _ => none
    | _ => none
  | _ => none

/-! Built-in functions -/
noncomputable def lenV (h : Hp) (k : LK) (x : AV) : Option AV :=
  match k, x with
  | .str, .str s => some (.int .i64 (Int.ofNat (lenL s)))
  | .slc, .nils => some (.int .i64 0)
  | .slc, .slc _ _ n _ | .slc, .opn _ _ n _ => some (.int .i64 (Int.ofNat n))
  | .map, .nilm => some (.int .i64 0)
  | .map, .map r => match h.get r with
    | some (.map es _) => some (.int .i64 (Int.ofNat (lenL es)))
    | _ => none
  | .const n, _ => some (.int .i64 (Int.ofNat n))
  | _, _ => none

/-- The elements that are appended or copied: at most m of them. -/
noncomputable def srcEs (h : Hp) (sz : Nat) (x : AV) : Option (Nat × (Nat → Option (List (List AV)))) :=
  match x with
  | .nils => some (0, fun _ => some [])
  | .slc b o n _ | .opn b o n _ => some (n, fun m => getEs h b o sz m)
  | .str s => bif Nat.beq sz 1 then some (lenL s, fun m => some (unitsOf (takeL m s))) else none
  | _ => none

noncomputable def appendV (h : Hp) (e : TypeId) (sz : Nat) (s x : AV) : Option (AV × Hp) :=
  match srcEs h sz x with
  | some (n, f) => match f n with
    | some new => match s with
      | .nils => bif Nat.beq n 0 then some (.nils, h) else
          bif Nat.ble n 1048576 then some (.opn h.next 0 n sz, newS h e sz new true .no) else none
      | .slc b o len cap => bif Nat.ble (Nat.add len n) cap then
            (match setEs h b (Nat.add o (Nat.mul len sz)) sz n new with
             | some h' => some (.slc b o (Nat.add len n) cap, h')
             | none => none)
          else bif Nat.ble (Nat.add len n) 1048576 then (match getEs h b o sz len with
            | some old => some (.opn h.next 0 (Nat.add len n) sz, newS h e sz (appL old new) true .no)
            | none => none) else none
      | .opn b o len sz' => bif Nat.ble (Nat.add len n) 1048576 && Nat.beq sz sz' then (match h.get b with
          | some (.cells m s' _ _ e' true frz) => bif Nat.beq e e' && Nat.beq sz s' && (match frz with | .yes => Nat.beq (Nat.add o (Nat.mul len sz)) (Nat.mul m s') | _ => true) then
              (match getEs h b o sz len with
               | some old => some (.opn h.next 0 (Nat.add len n) sz, newS (h.del b) e sz (appL old new) true frz)
               | none => none) else none
          | _ => none) else none
      | _ => none
    | none => none
  | none => none

noncomputable def copyV (h : Hp) (sz : Nat) (d s : AV) : Option (AV × Hp) :=
  match srcEs h sz s with
  | some (n, f) => match d with
    | .nils => some (.int .i64 0, h)
    | .slc b o len _ | .opn b o len _ => match f (Nat.min n len) with
      | some es => match setEs h b o sz (Nat.min n len) es with
        | some h' => some (.int .i64 (Int.ofNat (Nat.min n len)), h')
        | none => none
      | none => none
    | _ => none
  | none => none

noncomputable def minmax (lt : Int → Int → Bool) (xs : List AV) : AV → Option AV :=
  List.rec (fun v => match v with | .int _ _ => some v | _ => none) (fun a _ ih v => match v, a with
    | .int k x, .int _ y => ih (.int k (bif lt y x then y else x))
    | _, _ => none) xs

noncomputable def repE {α : Type} (x : α) (n : Nat) : List α := Nat.rec [] (fun _ ih => x :: ih) n

noncomputable def externV (h : Hp) (name : String) (args : List AV) : Option (AV × Hp) :=
  match args with
  | [.str s, .int .u8 (.ofNat c)] =>
    bif name == "internal/bytealg.IndexByteString" then
      some (.int .i64 (List.rec (motive := fun _ => Nat → Int) (fun _ => -1) (fun x _ ih i => bif Nat.beq x (Nat.mod c 256) then Int.ofNat i else ih (Nat.succ i)) s 0), h)
    else bif name == "internal/bytealg.CountString" then some (.int .i64 (Int.ofNat (lenL (filtL (fun x => Nat.beq x (Nat.mod c 256)) s))), h)
    else none
  | [x] => bif name == "internal/abi.NoEscape" then some (x, h) else
    (match x with
     | .int .i64 (.ofNat n) => bif name == "internal/bytealg.MakeNoZero" && Nat.ble n 1048576 then some (.opn h.next 0 n 1, newS h 5 1 [] true .no) else none
     | _ => none)
  | _ => none


noncomputable def oV (h : Hp) (x : Option AV) : Option (ANext × Hp) := Option.rec none (fun v => some (.value v, h)) x
noncomputable def oVH (x : Option (AV × Hp)) : Option (ANext × Hp) := Option.rec none (fun p => some (.value p.1, p.2)) x
noncomputable def oH (x : Option Hp) : Option (ANext × Hp) := Option.rec none (fun h => some (.value .und, h)) x

/-! Operations, as functions -/
noncomputable def r_v1 (f : AV → Option AV) (x : AO) (tm : PT AV) (h : Hp) : Option (ANext × Hp) := oV h (f (ev tm x))
noncomputable def r_v2 (f : AV → AV → Option AV) (x y : AO) (tm : PT AV) (h : Hp) : Option (ANext × Hp) := oV h (f (ev tm x) (ev tm y))
noncomputable def r_h1 (f : AV → Hp → Option AV) (x : AO) (tm : PT AV) (h : Hp) : Option (ANext × Hp) := oV h (f (ev tm x) h)
noncomputable def r_h2 (f : AV → AV → Hp → Option AV) (x y : AO) (tm : PT AV) (h : Hp) : Option (ANext × Hp) := oV h (f (ev tm x) (ev tm y) h)
noncomputable def r_e1 (f : AV → Hp → Option (AV × Hp)) (x : AO) (tm : PT AV) (h : Hp) : Option (ANext × Hp) := oVH (f (ev tm x) h)
noncomputable def r_e2 (f : AV → AV → Hp → Option (AV × Hp)) (x y : AO) (tm : PT AV) (h : Hp) : Option (ANext × Hp) := oVH (f (ev tm x) (ev tm y) h)
noncomputable def r_s2 (f : AV → AV → Hp → Option Hp) (x y : AO) (tm : PT AV) (h : Hp) : Option (ANext × Hp) := oH (f (ev tm x) (ev tm y) h)
noncomputable def r_s3 (f : AV → AV → AV → Hp → Option Hp) (x y z : AO) (tm : PT AV) (h : Hp) : Option (ANext × Hp) := oH (f (ev tm x) (ev tm y) (ev tm z) h)

noncomputable def r_mv (x : AO) (tm : PT AV) (h : Hp) : Option (ANext × Hp) := some (.value (ev tm x), h)
noncomputable def r_pick (c a b : AO) (tm : PT AV) (h : Hp) : Option (ANext × Hp) := match ev tm c with
  | .bool t => some (.value (bif t then ev tm a else ev tm b), h)
  | _ => none
noncomputable def r_new (e : TypeId) (s : Nat) (z : List AV) (_tm : PT AV) (h : Hp) : Option (ANext × Hp) := some (.value (.ptr h.next 0), h.new (.cells 1 s z .leaf e false .no))
noncomputable def fBox (e : TypeId) (s : Nat) (ag : Bool) (x : AV) (h : Hp) : Option (AV × Hp) :=
  match cellsAs ag s x with
  | some cs => some (.ptr h.next 0, h.new (.cells 1 s cs .leaf e false .no))
  | none => none
noncomputable def r_bld (n : Nat) (z : List AV) (ps : List (Nat × Bool × Nat × AO)) (tm : PT AV) (h : Hp) : Option (ANext × Hp) :=
  match layParts tm ps z with
  | some cs => some (.value (.agg n cs), h)
  | none => none
noncomputable def r_bldS (e : TypeId) (s len : Nat) (z : List AV) (ps : List (Nat × Bool × AO)) (tm : PT AV) (h : Hp) : Option (ANext × Hp) :=
  match layElems tm s len ps .leaf with
  | some cs => some (.value (.slc h.next 0 len len), h.new (.cells len s z cs e false .no))
  | none => none
noncomputable def fLd1 (a : AV) (h : Hp) : Option AV := match a with | .ptr b o => get1 h b o | _ => none
noncomputable def fLdN (n : Nat) (a : AV) (h : Hp) : Option AV := match a with
  | .ptr b o => (match getR h b o n with
    | some cs => some (.agg n cs)
    | none => none)
  | _ => none
noncomputable def fSt1 (a x : AV) (h : Hp) : Option Hp := match a with
  | .ptr b o => bif isCell x then setR h b o 1 [x] else none
  | _ => none
noncomputable def fStN (n : Nat) (a x : AV) (h : Hp) : Option Hp := match a with
  | .ptr b o => (match x with
    | .agg m cs => bif Nat.beq m n then setR h b o n cs else none
    | _ => none)
  | _ => none
noncomputable def fMkMr (r : AV) (h : Hp) : Option (AV × Hp) := match r with
  | .int _ _ => some (.map h.next, h.new (.map [] 0))
  | _ => none
noncomputable def fMkS (e : TypeId) (s : Nat) (z : List AV) (l c : AV) (h : Hp) : Option (AV × Hp) := match l with
  | .int .i64 (.ofNat l) => (match c with
    | .int .i64 (.ofNat c) => bif Nat.ble l c && Nat.ble c 1048576 then some (.slc h.next 0 l c, h.new (.cells c s z .leaf e false .no)) else none
    | _ => none)
  | _ => none
noncomputable def evo (tm : PT AV) (x : Option AO) : Option AV := Option.rec none (fun a => some (ev tm a)) x
noncomputable def r_slc (k : SK) (x : AO) (lo hi mx : Option AO) (tm : PT AV) (h : Hp) : Option (ANext × Hp) := oV h (sliceV k (ev tm x) (evo tm lo) (evo tm hi) (evo tm mx))
noncomputable def fFa (off : Nat) (x : AV) : Option AV := match x with | .ptr b o => some (.ptr b (Nat.add o off)) | _ => none
noncomputable def fFl1 (off : Nat) (x : AV) : Option AV := match x with | .agg _ cs => nthL off cs | _ => none
noncomputable def fFlN (off n : Nat) (x : AV) : Option AV := match x with
  | .agg m cs => bif Nat.ble (Nat.add off n) m then some (.agg n (takeL n (dropL off cs))) else none
  | _ => none
noncomputable def fIaA (n sz : Nat) (x i : AV) : Option AV := match x with
  | .ptr b o => (match idx n i with | some k => some (.ptr b (Nat.add o (Nat.mul k sz))) | none => none)
  | _ => none
noncomputable def iaAt (b : K) (o sz : Nat) (k : Option Nat) : Option AV := match k with | some k => some (.ptr b (Nat.add o (Nat.mul k sz))) | none => none
noncomputable def fIaS (sz : Nat) (x i : AV) : Option AV := match x with
  | .slc b o len _ => iaAt b o sz (idx len i)
  | .opn b o len _ => iaAt b o sz (idx len i)
  | _ => none
noncomputable def fIx1 (n sz : Nat) (x i : AV) : Option AV := match x with
  | .agg _ cs => (match idx n i with | some k => nthL (Nat.mul k sz) cs | none => none)
  | _ => none
noncomputable def fIxN (n sz m : Nat) (x i : AV) : Option AV := match x with
  | .agg t cs => (match idx n i with
    | some k => bif Nat.ble (Nat.add (Nat.mul k sz) m) t then some (.agg m (takeL m (dropL (Nat.mul k sz) cs))) else none
    | none => none)
  | _ => none
noncomputable def fIxS (x i : AV) : Option AV := match x with
  | .str s => (match i with
    | .int _ (.ofNat k) => (match nthL k s with
      | some c => some (.int .u8 (Int.ofNat c))
      | none => none)
    | _ => none)
  | _ => none
noncomputable def fRgS (x : AV) (h : Hp) : Option (AV × Hp) := match x with
  | .str s => some (.ptr h.next 0, h.new (.strIter s 0))
  | _ => none
noncomputable def fRgM (x : AV) (h : Hp) : Option (AV × Hp) := match x with
  | .nilm => some (.ptr h.next 0, h.new .nilIter)
  | .map m => (match h.get m with
    | some (.map _ clock) => some (.ptr h.next 0, h.new (.mapIter m clock [] clock))
    | _ => none)
  | _ => none
noncomputable def fEx (i : Nat) (t : AV) : Option AV := match t with | .tup vs => nthL i vs | _ => none
noncomputable def fCap (x : AV) : Option AV := match x with
  | .nils => some (.int .i64 0)
  | .slc _ _ _ c => some (.int .i64 (Int.ofNat c))
  | _ => none
noncomputable def r_minmax (lt : Int → Int → Bool) (x : AO) (r : List AO) (tm : PT AV) (h : Hp) : Option (ANext × Hp) := oV h (minmax lt (mapL (ev tm) r) (ev tm x))
noncomputable def fClr (z : List AV) (sz : Nat) (x : AV) (h : Hp) : Option Hp := match x with
  | .nils => some h
  | .slc b o n _ => setEs h b o sz n (repE z n)
  | .opn b o n _ => setEs h b o sz n (repE z n)
  | _ => none
noncomputable def r_clr (z : List AV) (sz : Nat) (x : AO) (tm : PT AV) (h : Hp) : Option (ANext × Hp) := oH (fClr z sz (ev tm x) h)
noncomputable def ustrAt (e : TypeId) (k : Nat) (b : K) (o : Nat) (h : Hp) : Option (AV × Hp) :=
  match h.get b with
  | some (.cells m s d cs e' opn frz) => bif Nat.beq e e' && Nat.beq s 1 && Nat.ble (Nat.add o k) m && (match frz with | .str => false | _ => true) then
      (match bytesOf (flatL (chunksFrom d cs k o)) with
       | some bs => some (.str bs, h.set b (.cells m s d cs e' opn .yes))
       | none => none) else none
  | _ => none
noncomputable def fUstr (e : TypeId) (p n : AV) (h : Hp) : Option (AV × Hp) := match n with
  | .int _ (.ofNat k) => (match p with
    | .ptr b o => bif Nat.beq k 0 then some (.str [], h) else ustrAt e k b o h
    | .nilp => bif Nat.beq k 0 then some (.str [], h) else none
    | _ => none)
  | _ => none
noncomputable def fUdat (x : AV) : Option AV := match x with
  | .nils => some .nilp
  | .slc b o _ c => bif Nat.beq c 0 then none else some (.ptr b o)
  | .opn b o n _ => bif Nat.beq n 0 then none else some (.ptr b o)
  | _ => none
noncomputable def fNilc (M : TypeId → String → Option FuncId) (x : AV) : Option AV := match x with
  | .ptr b o => some (.ptr b o)
  | .fn f a b => some (.fn f a b)
  | .yld l => some (.yld l)
  | .ifc t v => some (.ifc t v)
  | .mth name first => (match first with
    | .ifc t _ :: _ => (match M t name with
      | some _ => some (.mth name first)
      | none => none)
    | _ => none)
  | _ => none
noncomputable def r_call (f : AO) (args : List AO) (tm : PT AV) (h : Hp) : Option (ANext × Hp) := some (.call (ev tm f) (mapL (ev tm) args), h)
noncomputable def r_inv (name : String) (r : AO) (args : List AO) (tm : PT AV) (h : Hp) : Option (ANext × Hp) := some (.call (.mth name [ev tm r]) (mapL (ev tm) args), h)
noncomputable def r_dfr (f : AO) (args : List AO) (tm : PT AV) (h : Hp) : Option (ANext × Hp) := some (.defer (ev tm f) (mapL (ev tm) args), h)
noncomputable def r_mkF (f : FuncId) (a b : List AO) (tm : PT AV) (h : Hp) : Option (ANext × Hp) := some (.value (.fn f (mapL (ev tm) a) (mapL (ev tm) b)), h)
noncomputable def r_mkMth (name : String) (a : List AO) (tm : PT AV) (h : Hp) : Option (ANext × Hp) := some (.value (.mth name (mapL (ev tm) a)), h)
noncomputable def r_mkM (h : Hp) : Option (ANext × Hp) := some (.value (.map h.next), h.new (.map [] 0))

noncomputable def opV (o : OpF) (tm : PT AV) (h : Hp) : Option (ANext × Hp) :=
  OpF.rec (motive := fun _ => Option (ANext × Hp))
    (fun f x => r_v1 f x tm h) (fun f x y => r_v2 f x y tm h) (fun f x => r_h1 f x tm h) (fun f x y => r_h2 f x y tm h)
    (fun f x => r_e1 f x tm h) (fun f x y => r_e2 f x y tm h) (fun f x y => r_s2 f x y tm h) (fun f x y z => r_s3 f x y z tm h)
    (fun x => r_mv x tm h) (fun c a b => r_pick c a b tm h) (fun e s z => r_new e s z tm h) (fun n z ps => r_bld n z ps tm h)
    (fun e s len z ps => r_bldS e s len z ps tm h) (fun k x lo hi mx => r_slc k x lo hi mx tm h) (fun lt x r => r_minmax lt x r tm h)
    (fun z sz x => r_clr z sz x tm h) (some (.recover, h)) (fun f args => r_call f args tm h) (fun n r args => r_inv n r args tm h)
    (fun f args => r_dfr f args tm h) (fun f a b => r_mkF f a b tm h) (fun n a => r_mkMth n a tm h) (r_mkM h) none o


/-! Operations that make a block and read none, as a drawn region takes them: the block, and its value by its key -/
inductive FrOp where
  | alloc (e : TypeId) (s : Nat) (z : List AV)
  | box (e : TypeId) (s : Nat) (ag : Bool) (x : AO)
  | bldS (e : TypeId) (s len : Nat) (z : List AV) (ps : List (Nat × Bool × AO))
  | mkS (e : TypeId) (s : Nat) (z : List AV) (l c : AO)

inductive FrV where
  | ptr
  | slc (l c : Nat)

noncomputable def FrV.at (f : FrV) (k : K) : AV := FrV.rec (.ptr k 0) (fun l c => .slc k 0 l c) f

noncomputable def frBox (e : TypeId) (s : Nat) (x : Option (List AV)) : Option (AObj × FrV) :=
  Option.rec none (fun cs => some (.cells 1 s cs .leaf e false .no, .ptr)) x
noncomputable def frBldS (e : TypeId) (s len : Nat) (z : List AV) (x : Option (PT (List AV))) : Option (AObj × FrV) :=
  Option.rec none (fun cs => some (.cells len s z cs e false .no, .slc len len)) x
noncomputable def frMkS (e : TypeId) (s : Nat) (z : List AV) (l c : AV) : Option (AObj × FrV) := match l with
  | .int .i64 (.ofNat l) => (match c with
    | .int .i64 (.ofNat c) => bif Nat.ble l c && Nat.ble c 1048576 then some (.cells c s z .leaf e false .no, .slc l c) else none
    | _ => none)
  | _ => none

noncomputable def frV (f : FrOp) (tm : PT AV) : Option (AObj × FrV) :=
  FrOp.rec (fun e s z => some (.cells 1 s z .leaf e false .no, .ptr)) (fun e s ag x => frBox e s (cellsAs ag s (ev tm x)))
    (fun e s len z ps => frBldS e s len z (layElems tm s len ps .leaf)) (fun e s z l c => frMkS e s z (ev tm l) (ev tm c)) f

structure IR where
  dst : Option K
  op : OpF
  fr : Option FrOp
  kind : Kind
  guard : Option (K × Bool)

inductive IC where
  | skip
  | reg (ops : List IR)
  | drw (ops : List (IR × Nat)) (m : Nat)
  | seq (a b : IC)
  | cond (c : AO) (a b : IC)
  | block (id : Nat) (b : IC)
  | loop (b : IC)
  | rf (f : AO) (params : List Tmp) (assign body : Code)
  | exit (id : Nat)
  | scope (b : IC)
  | label (l : Nat)
  | goto (l : Nat)
  | ret
  | bad

inductive RV where
  | t (k : K)
  | ld1 (k : K)
  | ldN (n : Nat) (k : K)
  | bad

structure FI where
  body : IC
  results : List RV
  ext : Option String
  n : Nat

/-- A program for the evaluator. -/
structure Prg where
  types : PT TI
  funcs : PT FI
  g : Nat

/-! Compilation -/
section compile
variable (T : Cx)

noncomputable def tinf (t : TypeId) : Option TI := bif Nat.blt t 65536 then T.types.get (K.of t) else none
noncomputable def undT (t : TypeId) : TypeDesc := match tinf T t with | some i => i.und | none => .invalid
noncomputable def sizeT (t : TypeId) : Nat := match tinf T t with | some i => i.info.size | none => 0
noncomputable def bytesT (t : TypeId) : Nat := match tinf T t with | some i => i.info.bytes | none => 0
noncomputable def zeroT (t : TypeId) : Option Value := match tinf T t with | some i => i.info.zero | none => none
def isAggD : TypeDesc → Bool
  | .struct _ | .array _ _ => true
  | _ => false

noncomputable def known (t : TypeId) : Bool := match tinf T t with | some _ => true | none => false

/-- Constants without addresses. -/
def ofC : Value → AV
  | .bool b => .bool b
  | .int k n => .int k n
  | .string s => .str (s.data.toList.map (·.toNat))
  | .pointer none => .nilp
  | .slice none _ _ => .nils
  | .map none => .nilm
  | .nilFunc => .nilf
  | .nilIface => .nili
  | .func (.func f) _ _ => .fn f [] []
  | _ => .und

/-- Whether 'ofC' says all of a constant. -/
def okC : Value → Bool
  | .bool _ | .int _ _ | .string _ | .pointer none | .slice none 0 0 | .map none | .nilFunc | .nilIface => true
  | .func (.func _) a b => a.isEmpty && b.isEmpty
  | _ => false

def ofV : Value → AV
  | .agg cs => .agg cs.size (cs.toList.map ofC)
  | v => ofC v
def okV : Value → Bool
  | .agg cs => cs.toList.all okC
  | v => okC v

noncomputable def zcells (t : TypeId) : Option (List AV) :=
  match zeroT T t with
  | some z => bif z.cells.toList.all okC && Nat.beq z.cells.size (sizeT T t) && !Nat.beq (sizeT T t) 0 then some (z.cells.toList.map ofC) else none
  | none => none

noncomputable def zval (t : TypeId) : Option AV :=
  match zeroT T t with
  | some z => bif okV z then some (ofV z) else none
  | none => none

noncomputable def cO (x : Operand) : Option AO := match x with
  | .tmp t => bif Nat.blt t T.n then some (.t (K.of t)) else none
  | .const v => bif okV v then some (.c (ofV v)) else none
  | .global g => bif Nat.blt g T.g then some (.c (.ptr (K.of g) 0)) else none
  | .func f => some (.c (.fn f [] []))

noncomputable def cOs : List Operand → Option (List AO)
  | [] => some []
  | x :: xs => match cO T x, cOs xs with
    | some a, some as => some (a :: as)
    | _, _ => none

noncomputable def cOo : Option Operand → Option (Option AO)
  | none => some none
  | some x => match cO T x with
    | some a => some (some a)
    | none => none

noncomputable def ekT (t : TypeId) : Option EK :=
  bif Nat.beq (sizeT T t) 1 then match undT T t with
  | .bool => some .bool
  | .int _ => some .int
  | .string => some .str
  | _ => none
  else none

noncomputable def keyT (t : TypeId) : Option KK :=
  match undT T t with
  | .array n e => match ekT T e with
    | some ek => some (.arr n ek)
    | none => none
  | _ => match ekT T t with
    | some ek => some (.one ek)
    | none => none

def nilO : Operand → Bool
  | .const .nilIface => true
  | _ => false

noncomputable def ckOf (t : TypeId) (x y : Operand) : CK :=
  match undT T t with
  | .bool => .bool
  | .pointer e => bif Nat.beq (sizeT T e) 0 then .no else .ptr
  | .slice _ => .slc
  | .map _ _ => .map
  | .func _ _ _ => .fn
  | .interface _ => bif nilO x || nilO y then .ifn else .no
  | .array n e => match ekT T e with
    | some ek => .arr n ek
    | none => .no
  | _ => .no

noncomputable def vkOf (src dst : TypeId) : VK :=
  match undT T src, undT T dst with
  | .int _, .int k => .int k
  | .string, .string => .str
  | .slice e, .string => match undT T e with | .int .u8 => .bs | _ => .no
  | .string, .slice e => match undT T e with | .int .u8 => .sb e | _ => .no
  | .pointer e, .unsafePointer => bif Nat.beq (sizeT T e) 0 then .no else .pu
  | .unsafePointer, .pointer e => bif Nat.beq (sizeT T e) 0 then .no else .up e (sizeT T e)
  | _, _ => .no

noncomputable def partsOf (place : Nat → Option (Nat × Bool × Nat)) : List (Nat × Operand) → Option (List (Nat × Bool × Nat × AO))
  | [] => some []
  | (i, x) :: r => match place i, cO T x, partsOf place r with
    | some (off, ag, n), some a, some l => some ((off, ag, n, a) :: l)
    | _, _, _ => none

noncomputable def mkI0 (x : Option AO) (f : AO → OpF) : OpF := match x with | some a => f a | none => .bad
noncomputable def mk2 (x y : Option AO) (f : AO → AO → OpF) : OpF := match x, y with | some a, some b => f a b | _, _ => .bad
noncomputable def mk3 (x y z : Option AO) (f : AO → AO → AO → OpF) : OpF := match x, y, z with | some a, some b, some c => f a b c | _, _, _ => .bad

/-- The function of a method with a pointer receiver, of a pointer's type. -/
noncomputable def methodV (t : TypeId) (name : String) : Option FuncId :=
  match tinf T t with
  | some ti => match ti.info.methods.toList.find? (fun m => m.name == name) with
    | some m => match m.path.toList, m.func, ti.und with
      | [], some (g, true), .pointer _ => some g
      | _, _, _ => none
    | none => none
  | none => none

noncomputable def cLen (t : TypeId) : LK :=
  match undT T t with
  | .string => .str | .slice _ => .slc | .map _ _ => .map | .array n _ => .const n
  | .pointer a => match undT T a with | .array n _ => .const n | _ => .no
  | _ => .no

noncomputable def cAppend (t u : TypeId) (s x : Operand) : OpF :=
  match undT T t with
  | .slice e => match undT T u with
    | .int _ => .bad
    | _ => match zcells T e with
      | some _ => bif !known T u || Nat.blt 1048576 (bytesT T e) then .bad else mk2 (cO T s) (cO T x) (.e2 (fun a b h => appendV h e (sizeT T e) a b))
      | none => .bad
  | _ => .bad

noncomputable def cBuiltin (b : Builtin) (ts : List TypeId) (args : List Operand) : OpF :=
  match b, ts, args with
  | .len, t :: _, [x] => mkI0 (cO T x) (.h1 (fun v h => lenV h (cLen T t) v))
  | .cap, t :: _, [x] => match undT T t with | .slice _ => mkI0 (cO T x) (.v1 fCap) | _ => .bad
  | .append, [t, u], [s, x] => cAppend T t u s x
  | .copy, [t, _], [d, s] => match undT T t with | .slice e => bif Nat.beq (sizeT T e) 0 then .bad else mk2 (cO T d) (cO T s) (.e2 (fun a b h => copyV h (sizeT T e) a b)) | _ => .bad
  | .min, _, x :: xs => match cO T x, cOs T xs with | some a, some l => .minmax iltB a l | _, _ => .bad
  | .max, _, x :: xs => match cO T x, cOs T xs with | some a, some l => .minmax (fun a b => iltB b a) a l | _, _ => .bad
  | .delete, [t, _], [m, k] => match undT T t with | .map kt _ => (match keyT T kt with | some kk => mk2 (cO T m) (cO T k) (.s2 (fun m k h => deleteV kk h m k)) | none => .bad) | _ => .bad
  | .clear, [t], [x] => match undT T t with
    | .slice e => match zcells T e with | some z => mkI0 (cO T x) (.clr z (sizeT T e)) | none => .bad
    | _ => .bad
  | .unsafeString, t :: _, [p, n] => match undT T t with
    | .pointer e => match undT T e with | .int .u8 => bif Nat.beq (sizeT T e) 1 then mk2 (cO T p) (cO T n) (.e2 (fUstr e)) else .bad | _ => .bad
    | _ => .bad
  | .unsafeSliceData, _, [x] => mkI0 (cO T x) (.v1 fUdat)
  | .recover, _, _ => .rcv
  | _, _, _ => .bad

noncomputable def cBin (op : BinOp) (t : TypeId) (x y : Operand) : OpF :=
  match op with
  | .shl | .shr => mk2 (cO T x) (cO T y) (.v2 (binShift op))
  | _ => match undT T t with
    | .int _ => mk2 (cO T x) (cO T y) (.v2 (binInt (arithF op)))
    | .string => mk2 (cO T x) (cO T y) (.v2 (binStr op))
    | _ => match op with
      | .eql => mk2 (cO T x) (cO T y) (.h2 (binEq (ckOf T t x y) false))
      | .neq => mk2 (cO T x) (cO T y) (.h2 (binEq (ckOf T t x y) true))
      | _ => .bad

noncomputable def cBuild (t : TypeId) (ps : List (Nat × Operand)) : OpF :=
  match zcells T t with
  | some z => match undT T t with
    | .struct fs => match partsOf T (fun i => (fs[i]?).map fun f => (f.offset, isAggD (undT T f.type), sizeT T f.type)) ps with
      | some l => bif allL (fun f => known T f.type) fs.toList then .bld (sizeT T t) z l else .bad
      | none => .bad
    | .array _ e => match partsOf T (fun i => some (i * sizeT T e, isAggD (undT T e), sizeT T e)) ps with
      | some l => bif known T e then .bld (sizeT T t) z l else .bad
      | none => .bad
    | _ => .bad
  | none => .bad

noncomputable def cBuildSlice (t : TypeId) (len : Nat) (ps : List (Nat × Operand)) : OpF :=
  match undT T t with
  | .slice e => match zcells T e with
    | some z => match partsOf T (fun i => some (i, isAggD (undT T e), sizeT T e)) ps with
      | some l => bif Nat.ble (len * sizeT T e) 65536 then .bldS e (sizeT T e) len z (l.map fun (i, a, _, x) => (i, a, x)) else .bad
      | none => .bad
    | none => .bad
  | _ => .bad

noncomputable def skOf (t : TypeId) : SK :=
  match undT T t with
  | .string => .str
  | .slice e => bif Nat.beq (sizeT T e) 0 then .no else .slc (sizeT T e)
  | .array n e => bif Nat.beq (sizeT T e) 0 then .no else .arr n (sizeT T e)
  | _ => .no

noncomputable def cSlice (t : TypeId) (x : Operand) (lo hi mx : Option Operand) : OpF :=
  match cO T x, cOo T lo, cOo T hi, cOo T mx with
  | some a, some l, some h, some m => .slc (skOf T t) a l h m
  | _, _, _, _ => .bad

noncomputable def cMap (t : TypeId) (f : KK → AV → OpF) : OpF :=
  match undT T t with
  | .map kt et => match zval T et with
    | some z => match keyT T kt with
      | some kk => f kk z
      | none => .bad
    | none => .bad
  | _ => .bad

noncomputable def cCall (c : Call) : OpF :=
  match c.callee with
  | .builtin b => cBuiltin T b c.argTypes.toList c.args.toList
  | .value f => match cO T f, cOs T c.args.toList with
    | some a, some l => .call a l
    | _, _ => .bad
  | .invoke r name => match cO T r, cOs T c.args.toList with
    | some a, some l => .inv name a l
    | _, _ => .bad

noncomputable def cField (t : TypeId) (x : Operand) (f : Nat) : OpF :=
  match undT T t with
  | .struct fs => match fs[f]? with
    | some fd => bif known T fd.type then mkI0 (cO T x) (bif isAggD (undT T fd.type) then .v1 (fFlN fd.offset (sizeT T fd.type)) else .v1 (fFl1 fd.offset)) else .bad
    | none => .bad
  | _ => .bad

noncomputable def cFieldAddr (t : TypeId) (x : Operand) (f : Nat) : OpF :=
  match undT T t with
  | .struct fs => match fs[f]? with
    | some fd => bif Nat.beq (sizeT T fd.type) 0 then .bad else mkI0 (cO T x) (.v1 (fFa fd.offset))
    | none => .bad
  | _ => .bad

noncomputable def cIndexAddr (t : TypeId) (x i : Operand) : OpF :=
  match undT T t with
  | .array n e => bif Nat.beq (sizeT T e) 0 then .bad else mk2 (cO T x) (cO T i) (.v2 (fIaA n (sizeT T e)))
  | .slice e => bif Nat.beq (sizeT T e) 0 then .bad else mk2 (cO T x) (cO T i) (.v2 (fIaS (sizeT T e)))
  | _ => .bad

noncomputable def cIndex (t : TypeId) (x i : Operand) : OpF :=
  match undT T t with
  | .array n e => bif known T e then mk2 (cO T x) (cO T i) (bif isAggD (undT T e) then .v2 (fIxN n (sizeT T e) (sizeT T e)) else .v2 (fIx1 n (sizeT T e))) else .bad
  | .string => mk2 (cO T x) (cO T i) (.v2 fIxS)
  | _ => .bad

noncomputable def cMakeSlice (t : TypeId) (l c : Operand) : OpF :=
  match undT T t with
  | .slice e => match zcells T e with
    | some z => bif Nat.beq (sizeT T e) 0 || Nat.blt 1048576 (bytesT T e) then .bad else mk2 (cO T l) (cO T c) (.e2 (fMkS e (sizeT T e) z))
    | none => .bad
  | _ => .bad

noncomputable def cMakeFunc (fn : Fn) (first captured : List Operand) : OpF :=
  match fn with
  | .func f => match cOs T first, cOs T captured with
    | some a, some b => .mkF f a b
    | _, _ => .bad
  | .method name => match cOs T first, captured with
    | some a, [] => .mkMth name a
    | _, _ => .bad
  | _ => .bad

noncomputable def convR (vk : VK) (x : AV) (h : Hp) : Option AV := Option.rec none (fun p => some p.1) (convV h vk x)
noncomputable def cConv (vk : VK) (x : Operand) : OpF := match vk with
  | .sb e => mkI0 (cO T x) (.e1 (fun v h => convV h (.sb e) v))
  | vk => mkI0 (cO T x) (.h1 (convR vk))

noncomputable def cOp (o : Op) : OpF :=
  match o with
  | .move x | .assign x => mkI0 (cO T x) .mv
  | .pick c a b => mk3 (cO T c) (cO T a) (cO T b) .pick
  | .alloc e => match zcells T e with | some z => .new e (sizeT T e) z | none => .bad
  | .box e x => bif Nat.beq (sizeT T e) 0 then .bad else mkI0 (cO T x) (.e1 (fBox e (sizeT T e) (isAggD (undT T e))))
  | .build t ps => cBuild T t ps.toList
  | .buildSlice t len ps => cBuildSlice T t len ps.toList
  | .load t a => bif known T t then mkI0 (cO T a) (bif isAggD (undT T t) then .h1 (fLdN (sizeT T t)) else .h1 fLd1) else .bad
  | .store t a x => bif known T t then mk2 (cO T a) (cO T x) (bif isAggD (undT T t) then .s2 (fStN (sizeT T t)) else bif Nat.beq (sizeT T t) 1 then .s2 fSt1 else fun _ _ => .bad) else .bad
  | .nilCheck x => mkI0 (cO T x) (.v1 (fNilc (methodV T)))
  | .binOp op t x y _ => cBin T op t x y
  | .unOp op _ x => mkI0 (cO T x) (.v1 (unV op))
  | .convert s d x => cConv T (vkOf T s d) x
  | .makeInterface t x => match undT T t with
    | .interface _ | .invalid => .bad
    | _ => mkI0 (cO T x) (.v1 (fun v => some (.ifc t v)))
  | .makeFunc fn first captured => cMakeFunc T fn first.toList captured.toList
  | .makeMap t r => match undT T t, r with
    | .map _ _, none => .mkM
    | .map _ _, some x => mkI0 (cO T x) (.e1 fMkMr)
    | _, _ => .bad
  | .makeSlice t l c => cMakeSlice T t l c
  | .slice t x lo hi mx => cSlice T t x lo hi mx
  | .fieldAddr t x f => cFieldAddr T t x f
  | .field t x f => cField T t x f
  | .indexAddr t x i => cIndexAddr T t x i
  | .index t x i => cIndex T t x i
  | .lookup t x i ok => cMap T t fun kk z => mk2 (cO T x) (cO T i) (.h2 (fun a b h => lookupV kk h z a b ok))
  | .mapUpdate t m k x | .insert t m k x => cMap T t fun kk _ => mk3 (cO T m) (cO T k) (cO T x) (.s3 (fun m k v h => mapSet kk h m k v))
  | .mapEntry t m k => cMap T t fun kk z => mk2 (cO T m) (cO T k) (.e2 (fun m k h => mapEntryV kk h z m k))
  | .entryStore _ m s x => mk3 (cO T m) (cO T s) (cO T x) (.s3 (fun m s v h => entryStoreV h m s v))
  | .range t x => match undT T t with
    | .string => mkI0 (cO T x) (.e1 fRgS)
    | .map _ _ => mkI0 (cO T x) (.e1 fRgM)
    | _ => .bad
  | .next it s => mkI0 (cO T it) (.e1 (fun v h => nextV h v s))
  | .entry it => mkI0 (cO T it) (.h1 (fun v h => entryV h v))
  | .extract t i => mkI0 (cO T t) (.v1 (fEx i))
  | .call c => cCall T c
  | .defer c => match c.callee with
    | .value f => match cO T f, cOs T c.args.toList with
      | some a, some l => .dfr a l
      | _, _ => .bad
    | _ => .bad
  | _ => .bad

/-- The block that an operation makes. -/
noncomputable def cFr (o : Op) : Option FrOp :=
  match o with
  | .alloc e => match zcells T e with | some z => some (.alloc e (sizeT T e) z) | none => none
  | .box e x => bif Nat.beq (sizeT T e) 0 then none else match cO T x with | some a => some (.box e (sizeT T e) (isAggD (undT T e)) a) | none => none
  | .buildSlice t len ps => match undT T t with
    | .slice e => match zcells T e with
      | some z => match partsOf T (fun i => some (i, isAggD (undT T e), sizeT T e)) ps.toList with
        | some l => bif Nat.ble (len * sizeT T e) 65536 then some (.bldS e (sizeT T e) len z (l.map fun (i, a, _, x) => (i, a, x))) else none
        | none => none
      | none => none
    | _ => none
  | .makeSlice t l c => match undT T t with
    | .slice e => match zcells T e with
      | some z => bif Nat.beq (sizeT T e) 0 || Nat.blt 1048576 (bytesT T e) then none else match cO T l, cO T c with
        | some a, some b => some (.mkS e (sizeT T e) z a b)
        | _, _ => none
      | none => none
    | _ => none
  | _ => none

noncomputable def kindI (o : OpF) (f : Option FrOp) : Kind :=
  match f with
  | some _ => .fresh
  | none => match o with
    | .v1 .. | .v2 .. | .mv .. | .pick .. | .bld .. | .slc .. | .minmax .. | .mkF .. | .mkMth .. => .pure
    | .h1 .. | .h2 .. => .read
    | _ => .effect

noncomputable def cGuard (ops : Array Oper) (o : Oper) : Option (Option (K × Bool)) := match o.guard with
  | none => some none
  | some (j, want) => match (ops[j]?).bind (·.dst) with
    | some d => bif Nat.blt d T.n then some (some (K.of d, want)) else none
    | none => none

noncomputable def dstOk (o : Oper) : Bool := match o.dst with | some d => Nat.blt d T.n | none => true

noncomputable def irOf (o : Oper) (g : Option (K × Bool)) : IR := { dst := o.dst.map K.of, op := cOp T o.op, fr := cFr T o.op, kind := kindI (cOp T o.op) (cFr T o.op), guard := g }
noncomputable def irBad : IR := { dst := none, op := .bad, fr := none, kind := .effect, guard := none }

noncomputable def cOper (ops : Array Oper) (o : Oper) : IR := Option.rec irBad (fun g => bif dstOk T o then irOf T o g else irBad) (cGuard T ops o)

/-! What a drawn region must be: no temporary is set twice, and who sets one and who looks at it come in an order -/
noncomputable def bitB (n i : Nat) : Bool := Nat.beq (Nat.mod (Nat.shiftRight n i) 2) 1

noncomputable def usesA (x : AO) : List K := AO.rec (fun k => [k]) (fun _ => []) x
noncomputable def usesL (l : List AO) : List K := List.rec [] (fun x _ ih => appL (usesA x) ih) l
noncomputable def usesO (x : Option AO) : List K := Option.rec [] usesA x
noncomputable def OpF.uses (o : OpF) : List K := match o with
  | .v1 _ x | .h1 _ x | .e1 _ x | .mv x | .clr _ _ x => usesA x
  | .v2 _ x y | .h2 _ x y | .e2 _ x y | .s2 _ x y => appL (usesA x) (usesA y)
  | .s3 _ x y z | .pick x y z => appL (usesA x) (appL (usesA y) (usesA z))
  | .new .. | .rcv | .mkM | .bad => []
  | .bld _ _ ps => usesL (mapL (fun p => p.2.2.2) ps)
  | .bldS _ _ _ _ ps => usesL (mapL (fun p => p.2.2) ps)
  | .slc _ x a b c => appL (usesA x) (appL (usesO a) (appL (usesO b) (usesO c)))
  | .minmax _ x r => appL (usesA x) (usesL r)
  | .call f l | .dfr f l => appL (usesA f) (usesL l)
  | .inv _ r l => appL (usesA r) (usesL l)
  | .mkF _ a b => appL (usesL a) (usesL b)
  | .mkMth _ a => usesL a
noncomputable def FrOp.uses (o : FrOp) : List K := match o with
  | .alloc .. => []
  | .box _ _ _ x => usesA x
  | .bldS _ _ _ _ ps => usesL (mapL (fun p => p.2.2) ps)
  | .mkS _ _ _ l c => appL (usesA l) (usesA c)
noncomputable def IR.uses (o : IR) : List K :=
  appL (Option.rec [] (fun p => [p.1]) o.guard) (appL (Option.rec [] FrOp.uses o.fr) o.op.uses)

noncomputable def memK (k : K) (l : List K) : Bool := List.rec false (fun x _ ih => bif K.beq k x then true else ih) l
noncomputable def dstIs (k : K) (d : Option K) : Bool := Option.rec false (fun x => K.beq k x) d

/-- One operation that sets k, at i with its ancestors, and another one at j. -/
noncomputable def dPair (k : K) (i anc j : Nat) (b : IR × Nat) : Bool :=
  bif Nat.beq i j then true else
    bif dstIs k b.1.dst then false else
      bif memK k b.1.uses then (bif Nat.blt i j then bitB b.2 i else bitB anc j) else true

noncomputable def allI {α : Type} (p : Nat → α → Bool) (l : List α) : Nat → Bool :=
  List.rec (fun _ => true) (fun x _ ih i => bif p i x then ih (Nat.succ i) else false) l

noncomputable def dOk (l : List (IR × Nat)) : Bool :=
  allI (fun i a => Option.rec true (fun k => allI (fun j b => dPair k i a.2 j b) l 0) a.1.dst) l 0

noncomputable def edgesOk (l : List Oper) : Bool :=
  allI (fun i o => o.after.toList.all fun e => !Region.binds .any e || Nat.blt e.on i) l 0

noncomputable def isFr (o : IR) : Bool := Option.rec false (fun _ => true) o.fr
noncomputable def countF (l : List (IR × Nat)) : Nat := List.rec (nat_lit 0) (fun p _ ih => bif isFr p.1 then Nat.succ ih else ih) l

noncomputable def cDraw (edges : Bool) (l : List (IR × Nat)) : IC := bif edges && dOk l then .drw l (countF l) else .bad

noncomputable def cCode : Code → IC
  | .skip => .skip
  | .region _ ops false => .reg (ops.toList.map (cOper T ops))
  | .region _ ops true => cDraw (edgesOk ops.toList) ((ops.toList.map (cOper T ops)).zip (Region.before ops).toList)
  | .seq a b => .seq (cCode a) (cCode b)
  | .cond c a b => match cO T c with
    | some x => .cond x (cCode a) (cCode b)
    | none => .bad
  | .block id b => .block id (cCode b)
  | .loop b => .loop (cCode b)
  | .rangeFunc f ps a b => match cO T f with
    | some x => .rf x ps.toList a b
    | none => .bad
  | .exit id => .exit id
  | .scope b => .scope (cCode b)
  | .label l => .label l
  | .goto l => .goto l
  | .ret => .ret
  | .refuse _ => .bad

noncomputable def cRes (r : ResultVar) : RV := match r with
  | .tmp t => bif Nat.blt t T.n then .t (K.of t) else .bad
  | .cell a t => bif Nat.blt a T.n && known T t then bif isAggD (undT T t) then .ldN (sizeT T t) (K.of a) else .ld1 (K.of a) else .bad

end compile

noncomputable def cFunc (T : PT TI) (g : Nat) (f : Func) : FI where
  body := match f.body with | some b => cCode ⟨T, f.ntmps, g⟩ b | none => .bad
  results := f.results.toList.map (cRes ⟨T, f.ntmps, g⟩)
  ext := match f.body with | some _ => none | none => some f.name
  n := f.ntmps

def findIC : IC → Nat → Option IC
  | .seq a b, l => match findIC a l with
    | some rest => some (.seq rest b)
    | none => findIC b l
  | .label l', l => bif Nat.beq l' l then some .skip else none
  | _, _ => none

/-! Code -/
structure St where
  tm : PT AV
  h : Hp
  df : List K        -- the marks of loops over functions
  rnd : Option K
  fn : FuncId
  n : Nat

abbrev Rec := IC → Option IC → St → Option (AExit × St)

section
variable (P : Prg)

noncomputable def funcI (f : FuncId) : Option FI := bif Nat.blt f 65536 then P.funcs.get (K.of f) else none

noncomputable def callV (f : AV) (args : List AV) : Option (FuncId × List AV × Option FI) :=
  match f with
  | .fn f first captured => some (f, appL first (appL args captured), funcI P f)
  | .mth name first => (match appL first args with
    | .ifc t v :: rest => (match methodV ⟨P.types, 0, 0⟩ t name with
      | some g => some (g, v :: rest, funcI P g)
      | none => none)
    | _ => none)
  | _ => none

noncomputable def resultV (h : Hp) (tm : PT AV) (r : RV) : Option AV :=
  match r with
  | .t k => some (tmGet tm k)
  | .ld1 k => fLd1 (tmGet tm k) h
  | .ldN n k => fLdN n (tmGet tm k) h
  | .bad => none

noncomputable def consO (a : Option AV) (b : Option (List AV)) : Option (List AV) :=
  Option.rec none (fun v => Option.rec none (fun vs => some (v :: vs)) b) a

noncomputable def resultsV (h : Hp) (tm : PT AV) (l : List RV) : Option (List AV) :=
  List.rec (some []) (fun r _ ih => consO (resultV h tm r) ih) l

noncomputable def packV (l : List AV) : AV := List.rec (.tup []) (fun v t _ => List.rec v (fun w u _ => .tup (v :: w :: u)) t) l

noncomputable def unmark (h : Hp) (r : K) : Option Hp :=
  match h.get r with
  | some (.deferred true) => some (h.set r (.deferred false))
  | _ => none

/-- The marks of loops over functions, taken at a function's end. -/
noncomputable def undefer (l : List K) : Hp → Option Hp :=
  List.rec (fun h => some h) (fun r _ ih h => Option.rec none ih (unmark h r)) l

noncomputable def setL (tm : PT AV) (l : List AV) : Nat → PT AV :=
  List.rec (fun _ => tm) (fun v _ ih i => (ih (Nat.succ i)).put (some v) (K.of i)) l

noncomputable def leave (rs : List RV) (st : St) : Option (AV × Hp) :=
  Option.rec none (fun h' => Option.rec none (fun vs => some (packV vs, h')) (resultsV h' st.tm rs)) (undefer st.df st.h)

def isEnd : AExit → Bool
  | .normal | .ret => true
  | _ => false

noncomputable def leaveX (rs : List RV) (p : AExit × St) : Option (AV × Hp) := bif isEnd p.1 then leave rs p.2 else none

noncomputable def enterF (rec : Rec) (f : FuncId) (args : List AV) (h : Hp) (fi : FI) : Option (AV × Hp) :=
  bif Nat.ble (lenL args) fi.n && Nat.ble fi.n 1048576 then Option.rec none (leaveX fi.results) (rec fi.body none ⟨setL .leaf args 0, h, [], none, f, fi.n⟩) else none

noncomputable def callFI (rec : Rec) (f : FuncId) (args : List AV) (h : Hp) (fi : FI) : Option (AV × Hp) :=
  Option.rec (enterF rec f args h fi) (fun name => externV h name args) fi.ext

noncomputable def callF (rec : Rec) (f : FuncId) (args : List AV) (h : Hp) : Option (AV × Hp) :=
  Option.rec none (callFI rec f args h) (funcI P f)

noncomputable def setParams (ks : List Tmp) : List AV → PT AV → PT AV :=
  List.rec (fun _ tm => tm) (fun k _ ih vs tm => List.rec tm (fun v r _ => ih r (tm.put (some v) (K.of k))) vs) ks

noncomputable def beginR (h : Hp) (l : K) : Option Hp := match h.get l with
  | some (.loop .ready pend fn tm n params assign body dfs) => some (h.set l (.loop .busy pend fn tm n params assign body dfs))
  | _ => none

noncomputable def endR (h : Hp) (l : K) (ex : AExit) : Option (AV × Hp) := match h.get l with
  | some (.loop _ _ fn tm n params assign body dfs) => match ex with
    | .normal => some (.bool true, h.set l (.loop .ready .normal fn tm n params assign body dfs))
    | ex => some (.bool false, h.set l (.loop .done ex fn tm n params assign body dfs))
  | _ => none

/-- A round of a loop over a function. -/
noncomputable def callY (rec : Rec) (l : K) (args : List AV) (h : Hp) : Option (AV × Hp) :=
  match h.get l with
  | some (.loop .ready _ fn tm n params assign body _) =>
    bif Nat.beq (lenL args) (lenL params) && allL (fun k => Nat.blt k n) params then
      match rec (cCode ⟨P.types, n, P.g⟩ assign) none ⟨setParams params args tm, h, [], some l, fn, n⟩ with
      | some (.normal, st1) => bif List.isEmpty st1.df then
          match beginR st1.h l with
          | some h1 => (match rec (cCode ⟨P.types, n, P.g⟩ body) none ⟨st1.tm, h1, [], some l, fn, n⟩ with
            | some (ex, st2) => bif List.isEmpty st2.df then endR st2.h l ex else none
            | none => none)
          | none => none
        else none
      | _ => none
    else none
  | _ => none

noncomputable def putR (tm : PT AV) (d : Option K) (p : AV × Hp) : Option (PT AV × Hp) := some (putT tm d p.1, p.2)

noncomputable def callA (rec : Rec) (h : Hp) (p : FuncId × List AV × Option FI) : Option (AV × Hp) :=
  Option.rec none (callFI rec p.1 p.2.1 h) p.2.2

/-- A call of a function value. -/
noncomputable def callX (rec : Rec) (f : AV) (args : List AV) (h : Hp) : Option (AV × Hp) :=
  match f with
  | .yld l => callY P rec l args h
  | f => Option.rec none (callA rec h) (callV P f args)

noncomputable def doNext (rec : Rec) (d : Option K) (tm : PT AV) (p : ANext × Hp) : Option (PT AV × Hp) :=
  ANext.rec (fun v => some (putT tm d v, p.2)) (fun f args => Option.rec none (putR tm d) (callX P rec f args p.2)) (fun _ _ => none) none p.1

/-- An operation with the call that it may be. -/
noncomputable def doOp (rec : Rec) (o : IR) (tm : PT AV) (h : Hp) : Option (PT AV × Hp) :=
  Option.rec none (doNext P rec o.dst tm) (opV o.op tm h)

noncomputable def guardB (want : Bool) (v : AV) : Bool := match v with | .bool b => b == want | _ => false
noncomputable def guardOk (o : IR) (tm : PT AV) : Bool := Option.rec true (fun p => guardB p.2 (tmGet tm p.1)) o.guard

noncomputable def opsCons (rec : Rec) (o : IR) (ih : PT AV → Hp → Option (PT AV × Hp)) (tm : PT AV) (h : Hp) : Option (PT AV × Hp) :=
  Bool.rec (ih (putT tm o.dst .und) h) (Option.rec none (fun p => ih p.1 p.2) (doOp P rec o tm h)) (guardOk o tm)

noncomputable def runOps (rec : Rec) (l : List IR) : PT AV → Hp → Option (PT AV × Hp) :=
  List.rec (fun tm h => some (tm, h)) (fun o _ ih => opsCons P rec o ih) l

noncomputable def cellEq (a b : AV) : Bool :=
  match a, b with
  | .bool a, .bool b => a == b
  | .int k a, .int k' b => decide (k = k') && ieqB a b
  | .str a, .str b => eqS a b
  | .nilp, .nilp | .nils, .nils | .nilm, .nilm | .nilf, .nilf | .nili, .nili => true
  | .ptr b o, .ptr b' o' => K.beq b b' && Nat.beq o o'
  | .slc b o l c, .slc b' o' l' c' => K.beq b b' && Nat.beq o o' && Nat.beq l l' && Nat.beq c c'
  | .opn b o l s, .opn b' o' l' s' => K.beq b b' && Nat.beq o o' && Nat.beq l l' && Nat.beq s s'
  | .map r, .map r' => K.beq r r'
  | .fn f [] [], .fn g [] [] => Nat.beq f g
  | .yld l, .yld l' => K.beq l l'
  | _, _ => false

noncomputable def cellsEq (a : List AV) : List AV → Bool :=
  List.rec (fun b => List.rec true (fun _ _ _ => false) b) (fun x _ ih b => List.rec false (fun y t _ => bif cellEq x y then ih t else false) b) a

noncomputable def valEq (a b : AV) : Bool :=
  match a, b with
  | .agg n x, .agg m y => Nat.beq n m && cellsEq x y
  | .tup x, .tup y => cellsEq x y
  | a, b => cellEq a b

noncomputable def isVal (v : AV) (p : ANext × Hp) : Bool := ANext.casesOn p.1 (fun v' => valEq v v') (fun _ _ => false) (fun _ _ => false) false

/-- Whether a reading operation yields a value in a heap. -/
noncomputable def reads (tm : PT AV) (o : OpF) (h : Hp) (v : AV) : Bool := Option.rec false (isVal v) (opV o tm h)

/-! Drawn regions: the operations in the text's order, with a trace; then whether another order could come to something else -/
structure TR where
  idx : Nat
  anc : Nat
  kd : Nat            -- 0: neither reads nor changes; 1 reads; 2 makes a block; 3 any
  op : OpF
  tm : PT AV
  h : Hp              -- before
  h' : Hp             -- behind
  v : AV

abbrev RunT := Nat → K → PT AV → Hp → Option (List TR × PT AV × Hp)

noncomputable def tAdd (r : TR) (x : Option (List TR × PT AV × Hp)) : Option (List TR × PT AV × Hp) := Option.rec none (fun p => some (r :: p.1, p.2)) x

noncomputable def tVal (kd : Nat) (p : IR × Nat) (ih : RunT) (i : Nat) (k : K) (tm : PT AV) (h : Hp) (v : AV) : Option (List TR × PT AV × Hp) :=
  tAdd ⟨i, p.2, kd, p.1.op, tm, h, h, v⟩ (ih (Nat.succ i) k (putT tm p.1.dst v) h)

noncomputable def tNext (kd : Nat) (p : IR × Nat) (ih : RunT) (i : Nat) (k : K) (tm : PT AV) (h : Hp) (q : ANext × Hp) : Option (List TR × PT AV × Hp) :=
  ANext.rec (fun v => tVal kd p ih i k tm h v) (fun _ _ => none) (fun _ _ => none) none q.1

noncomputable def tFresh (p : IR × Nat) (ih : RunT) (i : Nat) (k : K) (tm : PT AV) (h : Hp) (q : AObj × FrV) : Option (List TR × PT AV × Hp) :=
  tAdd ⟨i, p.2, 2, p.1.op, tm, h, h.set k q.1, q.2.at k⟩ (ih (Nat.succ i) k.succ (putT tm p.1.dst (q.2.at k)) (h.set k q.1))

noncomputable def doVal (rec : Rec) (o : IR) (tm : PT AV) (h : Hp) : Option (AV × Hp) :=
  Option.rec none (fun p => ANext.rec (fun v => some (v, p.2)) (fun f args => callX P rec f args p.2) (fun _ _ => none) none p.1) (opV o.op tm h)

noncomputable def tEff (p : IR × Nat) (ih : RunT) (i : Nat) (k : K) (tm : PT AV) (h : Hp) (q : AV × Hp) : Option (List TR × PT AV × Hp) :=
  tAdd ⟨i, p.2, 3, p.1.op, tm, h, q.2, q.1⟩ (ih (Nat.succ i) k (putT tm p.1.dst q.1) q.2)

noncomputable def tOne (rec : Rec) (p : IR × Nat) (ih : RunT) (i : Nat) (k : K) (tm : PT AV) (h : Hp) : Option (List TR × PT AV × Hp) :=
  match p.1.kind with
  | .pure => Option.rec none (tNext 0 p ih i k tm h) (opV p.1.op tm h)
  | .read => Option.rec none (tNext 1 p ih i k tm h) (opV p.1.op tm h)
  | .fresh => Option.rec none (tFresh p ih i k tm h) (Option.rec none (fun f => frV f tm) p.1.fr)
  | .effect => Option.rec none (tEff p ih i k tm h) (doVal P rec p.1 tm h)

noncomputable def tCons (rec : Rec) (p : IR × Nat) (ih : RunT) (i : Nat) (k : K) (tm : PT AV) (h : Hp) : Option (List TR × PT AV × Hp) :=
  bif guardOk p.1 tm then tOne P rec p ih i k tm h else tVal 0 p ih i k tm h .und

noncomputable def runT (rec : Rec) (l : List (IR × Nat)) : RunT :=
  List.rec (fun _ _ tm h => some ([], tm, h)) (fun p _ ih => tCons P rec p ih) l

/-- A change and a reading operation. -/
noncomputable def pairR (c r : TR) : Bool :=
  bif Nat.blt c.idx r.idx then bitB r.anc c.idx || reads r.tm r.op c.h r.v else bitB c.anc r.idx || reads r.tm r.op c.h' r.v
/-- A change and another one, which may be any. -/
noncomputable def pairC (c d : TR) : Bool := bif Nat.beq d.kd 3 && Nat.blt c.idx d.idx then bitB d.anc c.idx else true

noncomputable def traceOk (tr : List TR) : Bool :=
  allL (fun c => bif Nat.blt 1 c.kd then allL (fun r => bif Nat.beq r.kd 1 then pairR c r else pairC c r) tr else true) tr

noncomputable def succN (n : Nat) (k : K) : K := Nat.rec k (fun _ ih => ih.succ) n

noncomputable def runD (rec : Rec) (l : List (IR × Nat)) (m : Nat) (tm : PT AV) (h : Hp) : Option (PT AV × Hp) :=
  Option.rec none (fun p => bif traceOk p.1 then some p.2 else none) (runT P rec l 0 h.next tm ⟨h.objs, succN m h.next⟩)

noncomputable def afterLoop (l : K) (st : St) : Option (AExit × St) :=
  match st.h.get l with
  | some (.loop ls pend fn tm n params assign body dfs) => match ls with
    | .busy => none
    | _ => some (pend, ⟨st.tm, st.h.set l (.loop .over pend fn tm n params assign body dfs), st.df, st.rnd, st.fn, st.n⟩)
  | _ => none

noncomputable def loopDefers (st : St) : Option (K × Hp × List K) :=
  match st.rnd with
  | some l => match st.h.get l with
    | some (.loop _ _ _ _ _ _ _ _ dfs) => some (dfs, st.h, st.df)
    | _ => none
  | none => some (st.h.next, st.h.new (.deferred true), st.h.next :: st.df)

noncomputable def stReg (st : St) (p : PT AV × Hp) : Option (AExit × St) := some (.normal, ⟨p.1, p.2, st.df, st.rnd, st.fn, st.n⟩)
noncomputable def stSeq (rec : Rec) (b : IC) (p : AExit × St) : Option (AExit × St) :=
  AExit.casesOn p.1 (rec b none p.2) (fun _ => some p) (fun _ => some p) (some p)
noncomputable def stCond (rec : Rec) (a b : IC) (st : St) (v : AV) : Option (AExit × St) :=
  match v with
  | .bool t => Bool.rec (rec b none st) (rec a none st) t
  | _ => none
noncomputable def stBlock (id : Nat) (p : AExit × St) : Option (AExit × St) :=
  AExit.casesOn p.1 (some p) (fun id' => some (bif Nat.beq id' id then .normal else .exit id', p.2)) (fun _ => some p) (some p)
noncomputable def stScope (rec : Rec) (body : IC) (p : AExit × St) : Option (AExit × St) :=
  AExit.casesOn p.1 (some p) (fun _ => some p) (fun l => Option.rec (some p) (fun rest => rec rest (some body) p.2) (findIC body l)) (some p)
noncomputable def stRf (rec : Rec) (f : AO) (params : List Tmp) (assign body : Code) (st : St) (q : K × Hp × List K) : Option (AExit × St) :=
  match callV P (ev st.tm f) [.yld q.2.1.next] with
  | some (g, args, some fi) => (match enterF rec g args (q.2.1.new (.loop .ready .normal st.fn st.tm st.n params assign body q.1)) fi with
    | some (_, h2) => bif Option.isNone fi.ext then afterLoop q.2.1.next ⟨st.tm, h2, q.2.2, st.rnd, st.fn, st.n⟩ else none
    | none => none)
  | _ => none

noncomputable def stepC (rec : Rec) (c : IC) (st : St) : Option (AExit × St) :=
  IC.casesOn (motive := fun _ => Option (AExit × St)) c
    (some (.normal, st))
    (fun ops => Option.rec none (stReg st) (runOps P rec ops st.tm st.h))
    (fun ops m => Option.rec none (stReg st) (runD P rec ops m st.tm st.h))
    (fun a b => Option.rec none (stSeq rec b) (rec a none st))
    (fun c a b => stCond rec a b st (ev st.tm c))
    (fun id b => Option.rec none (stBlock id) (rec b none st))
    (fun b => Option.rec none (stSeq rec (.loop b)) (rec b none st))
    (fun f ps a b => Option.rec none (stRf P rec f ps a b st) (loopDefers st))
    (fun id => some (.exit id, st))
    (fun b => rec b (some b) st)
    (fun _ => some (.normal, st))
    (fun l => some (.goto l, st))
    (some (.ret, st))
    none

noncomputable def step (rec : Rec) : Rec := fun c sc st =>
  Option.rec (stepC P rec c st) (fun body => Option.rec none (stScope rec body) (rec c none st)) sc

noncomputable def exec (n : Nat) : Rec := Nat.rec (fun _ _ _ => none) (fun _ ih => step P ih) n
end

/-- The elements of a list by their places. -/
noncomputable def ofL {α : Type} (l : List α) : Nat → PT α := List.rec (fun _ => .leaf) (fun x _ ih i => (ih (Nat.succ i)).put (some x) (K.of i)) l

noncomputable def typesOf (P : Program) : PT TI := ofL (P.types.toList.mapIdx fun i ti => ⟨(P.underlying i).getD .invalid, ti⟩) 0
noncomputable def prgOf (P : Program) : Prg := ⟨typesOf P, ofL (P.funcs.toList.map (cFunc (typesOf P) P.globals.size)) 0, P.globals.size⟩

end Go.AX

/- THE ENGINE: laws of keys, trees and lists. -/
namespace Go.AX

namespace K
def toNat : K → Nat
  | .e => 0
  | .l k => 2 * toNat k + 1
  | .r k => 2 * toNat k + 2

theorem toNat_inj : ∀ {a b : K}, a.toNat = b.toNat → a = b := by
  intro a
  induction a with
  | e => intro b h; cases b <;> simp [toNat] at h ⊢
  | l k ih => intro b h; cases b with
    | e => simp [toNat] at h
    | l j => simp only [toNat] at h; rw [ih (b := j) (by omega)]
    | r j => simp only [toNat] at h; omega
  | r k ih => intro b h; cases b with
    | e => simp [toNat] at h
    | l j => simp only [toNat] at h; omega
    | r j => simp only [toNat] at h; rw [ih (b := j) (by omega)]

theorem toNat_succ (a : K) : a.succ.toNat = a.toNat + 1 := by
  induction a with
  | e => rfl
  | l k ih => show (K.r k).toNat = _; simp [toNat]
  | r k ih => show (K.l k.succ).toNat = _; simp only [toNat, ih]; omega

theorem beq_eq {a b : K} (h : a.beq b = true) : a = b := by
  induction a generalizing b with
  | e => cases b <;> first | rfl | cases h
  | l k ih => cases b with
    | e => cases h
    | l j => rw [ih (b := j) h]
    | r j => cases h
  | r k ih => cases b with
    | e => cases h
    | l j => cases h
    | r j => rw [ih (b := j) h]

theorem beq_refl (a : K) : a.beq a = true := by
  induction a with
  | e => rfl
  | l k ih => exact ih
  | r k ih => exact ih

theorem ne_of_beq {a b : K} (h : a.beq b = false) : a ≠ b := by
  rintro rfl; rw [beq_refl] at h; cases h

theorem ofF_succ (f n : Nat) : K.ofF (f + 1) n = if n = 0 then .e else if n % 2 = 1 then .l (K.ofF f (n / 2)) else .r (K.ofF f (n / 2 - 1)) := by
  show (Bool.rec (Bool.rec _ _ (Nat.beq (n % 2) 1)) _ (Nat.beq n 0) : K) = _
  by_cases h : n = 0
  · subst h; rfl
  · have h0 : Nat.beq n 0 = false := by rw [← Bool.not_eq_true]; simpa [Nat.beq_eq] using h
    rw [h0, if_neg h]
    by_cases h1 : n % 2 = 1
    · have : Nat.beq (n % 2) 1 = true := by rw [Nat.beq_eq]; exact h1
      rw [this, if_pos h1]; rfl
    · have : Nat.beq (n % 2) 1 = false := by rw [← Bool.not_eq_true]; simpa [Nat.beq_eq] using h1
      rw [this, if_neg h1]; rfl

theorem toNat_ofF (f n : Nat) (h : n + 1 < 2 ^ f) : (K.ofF f n).toNat = n := by
  induction f generalizing n with
  | zero => omega
  | succ f ih =>
    rw [ofF_succ]
    have hp : 2 ^ (f + 1) = 2 * 2 ^ f := by rw [Nat.pow_succ]; omega
    by_cases h0 : n = 0
    · rw [if_pos h0, h0]; rfl
    · rw [if_neg h0]
      by_cases h1 : n % 2 = 1
      · rw [if_pos h1]; simp only [toNat]; rw [ih _ (by omega)]; omega
      · rw [if_neg h1]; simp only [toNat]; rw [ih _ (by omega)]; omega

theorem toNat_of {n : Nat} (h : n ≤ 2 ^ 47) : (K.of n).toNat = n := toNat_ofF 48 n (by omega)

theorem of_inj {a b : Nat} (ha : a ≤ 2 ^ 47) (hb : b ≤ 2 ^ 47) (h : K.of a = K.of b) : a = b := by
  rw [← toNat_of ha, ← toNat_of hb, h]
end K

namespace PT
variable {α : Type}
@[simp] theorem get_leaf (k : K) : (PT.leaf : PT α).get k = none := by
  induction k with
  | e => rfl
  | l k ih => rfl
  | r k ih => rfl

theorem get_put_same (x : Option α) (k : K) (t : PT α) : (t.put x k).get k = x := by
  induction k generalizing t with
  | e => cases t <;> rfl
  | l k ih => cases t with
    | leaf => exact ih .leaf
    | node l v r => exact ih l
  | r k ih => cases t with
    | leaf => exact ih .leaf
    | node l v r => exact ih r

theorem get_put_ne (x : Option α) {k j : K} (h : j ≠ k) (t : PT α) : (t.put x k).get j = t.get j := by
  induction k generalizing t j with
  | e => cases j with
    | e => exact absurd rfl h
    | l j => cases t <;> first | rfl | exact get_leaf _
    | r j => cases t <;> first | rfl | exact get_leaf _
  | l k ih => cases j with
    | e => cases t <;> rfl
    | l j => cases t with
      | leaf => exact (ih (j := j) (by rintro rfl; exact h rfl) .leaf).trans (get_leaf _)
      | node l v r => exact ih (by rintro rfl; exact h rfl) l
    | r j => cases t with
      | leaf => exact get_leaf _
      | node l v r => rfl
  | r k ih => cases j with
    | e => cases t <;> rfl
    | l j => cases t with
      | leaf => exact get_leaf _
      | node l v r => rfl
    | r j => cases t with
      | leaf => exact (ih (j := j) (by rintro rfl; exact h rfl) .leaf).trans (get_leaf _)
      | node l v r => exact ih (by rintro rfl; exact h rfl) r

theorem get_put (x : Option α) (k j : K) (t : PT α) [Decidable (j = k)] : (t.put x k).get j = if j = k then x else t.get j := by
  by_cases h : j = k
  · subst h; rw [if_pos rfl, get_put_same]
  · rw [if_neg h, get_put_ne x h]
end PT

section lists
variable {α β : Type}
@[simp] theorem takeL_eq (n : Nat) (l : List α) : takeL n l = l.take n := by
  induction n generalizing l with
  | zero => rfl
  | succ n ih => cases l with
    | nil => rfl
    | cons a t => exact congrArg (a :: ·) (ih t)

@[simp] theorem dropL_eq (n : Nat) (l : List α) : dropL n l = l.drop n := by
  induction n generalizing l with
  | zero => rfl
  | succ n ih => cases l with
    | nil => rfl
    | cons a t => exact ih t

@[simp] theorem appL_eq (a b : List α) : appL a b = a ++ b := by
  induction a with
  | nil => rfl
  | cons x t ih => exact congrArg (x :: ·) ih

@[simp] theorem nthL_eq (n : Nat) (l : List α) : nthL n l = l[n]? := by
  induction n generalizing l with
  | zero => cases l <;> rfl
  | succ n ih => cases l with
    | nil => rfl
    | cons a t => exact (ih t).trans (by simp)

@[simp] theorem lenL_eq (l : List α) : lenL l = l.length := by
  induction l with
  | nil => rfl
  | cons a t ih => show Nat.succ (lenL t) = _; rw [ih]; rfl

@[simp] theorem mapL_eq (f : α → β) (l : List α) : mapL f l = l.map f := by
  induction l with
  | nil => rfl
  | cons a t ih => exact congrArg (f a :: ·) ih

@[simp] theorem allL_eq (p : α → Bool) (l : List α) : allL p l = l.all p := by
  induction l with
  | nil => rfl
  | cons a t ih =>
    show (Bool.rec false (allL p t) (p a) : Bool) = _
    cases h : p a <;> simp [h, ih]

@[simp] theorem filtL_eq (p : α → Bool) (l : List α) : filtL p l = l.filter p := by
  induction l with
  | nil => rfl
  | cons a t ih =>
    show (bif p a then a :: filtL p t else filtL p t) = _
    cases h : p a <;> simp [h, ih]

theorem overL_eq (n : Nat) (b l : List α) (h : n ≤ l.length) : overL n b l = l.take n ++ b ++ l.drop (n + b.length) := by
  induction n generalizing l with
  | zero => show appL b (dropL (lenL b) l) = _; simp
  | succ n ih => cases l with
    | nil => simp at h
    | cons a t =>
      show a :: overL n b t = _
      rw [ih t (by simpa using h), show n + 1 + b.length = (n + b.length) + 1 by omega]
      simp
end lists

theorem natbeq {a b : Nat} : Nat.beq a b = true ↔ a = b := by rw [Nat.beq_eq]
theorem natble {a b : Nat} : Nat.ble a b = true ↔ a ≤ b := by rw [Nat.ble_eq]
theorem natblt {a b : Nat} : Nat.blt a b = true ↔ a < b := by unfold Nat.blt; rw [Nat.ble_eq]; exact Iff.rfl

/-! The tree of a list -/
theorem ofL_get {α : Type} (l : List α) (i j : Nat) (hi : i + l.length ≤ 2 ^ 47) (hj : j ≤ 2 ^ 47) :
    (ofL l i).get (K.of j) = if i ≤ j then l[j - i]? else none := by
  induction l generalizing i with
  | nil => show (PT.leaf : PT α).get _ = _; simp
  | cons x t ih =>
    show ((ofL t (i + 1)).put (some x) (K.of i)).get (K.of j) = _
    simp only [List.length_cons] at hi
    by_cases h : j = i
    · subst h; rw [PT.get_put_same]; simp
    · rw [PT.get_put_ne _ (by intro e; exact h (K.of_inj hj (by omega) e)), ih (i + 1) (by omega)]
      by_cases hle : i + 1 ≤ j
      · rw [if_pos hle, if_pos (by omega)]
        have : j - i = (j - (i + 1)) + 1 := by omega
        rw [this]; simp
      · rw [if_neg hle, if_neg (by omega)]

end Go.AX

/- THE ENGINE: how abstract heaps stand for worlds. -/
namespace Go.AX

/-- Where an abstract block lies: a block of the world, the offset of its first cell; for one that may grow, how many cells there are from there on, and an element's size. -/
structure Loc where
  blk : Nat
  off : Nat
  tot : Nat
  sz : Nat

abbrev Phi := K → Option Loc

def Phi.le (φ φ' : Phi) : Prop := ∀ k l, φ k = some l → φ' k = some l
theorem Phi.le_refl (φ : Phi) : φ.le φ := fun _ _ h => h
theorem Phi.le_trans {a b c : Phi} (h : a.le b) (h' : b.le c) : a.le c := fun k l e => h' k l (h k l e)

mutual
inductive VRel (φ : Phi) : AV → Value → Prop
  | bool (b : Bool) : VRel φ (.bool b) (.bool b)
  | int (k : IntKind) (n : Int) : VRel φ (.int k n) (.int k n)
  | str {s : List Nat} {bs : ByteArray} (h : bs.data.toList.map (·.toNat) = s) : VRel φ (.str s) (.string bs)
  | nilp : VRel φ .nilp (.pointer none)
  | ptr {b : K} {o : Nat} {l : Loc} (h : φ b = some l) : VRel φ (.ptr b o) (.pointer (some ⟨l.blk, l.off + o, none⟩))
  | nils : VRel φ .nils (.slice none 0 0)
  | slc {b : K} {o len cap : Nat} {l : Loc} (h : φ b = some l) (hle : len ≤ cap) : VRel φ (.slc b o len cap) (.slice (some ⟨l.blk, l.off + o, none⟩) len cap)
  | opn {b : K} {o len c sz : Nat} {l : Loc} (h : φ b = some l) (hs : sz = l.sz) (ht : o + c * sz = l.tot) (hle : len ≤ c) :
      VRel φ (.opn b o len sz) (.slice (some ⟨l.blk, l.off + o, none⟩) len c)
  | opn0 {b : K} {o a sz : Nat} {l : Loc} (h : φ b = some l) (hs : sz = l.sz) : VRel φ (.opn b o 0 sz) (.slice (some ⟨l.blk, a, none⟩) 0 0)
  | nilm : VRel φ .nilm (.map none)
  | map {r : K} {l : Loc} (h : φ r = some l) : VRel φ (.map r) (.map (some l.blk))
  | nilf : VRel φ .nilf .nilFunc
  | fn {f : FuncId} {a c : List AV} {fa fc : List Value} (ha : VRels φ a fa) (hc : VRels φ c fc) : VRel φ (.fn f a c) (.func (.func f) fa.toArray fc.toArray)
  | mth {name : String} {a : List AV} {fa : List Value} (ha : VRels φ a fa) : VRel φ (.mth name a) (.func (.method name) fa.toArray #[])
  | yld {r : K} {l : Loc} (h : φ r = some l) : VRel φ (.yld r) (.func (.yield l.blk) #[] #[])
  | nili : VRel φ .nili .nilIface
  | ifc {t : TypeId} {v : AV} {c : Value} (h : VRel φ v c) : VRel φ (.ifc t v) (.iface t c)
  | agg {n : Nat} {a : List AV} {fa : List Value} (hn : a.length = n) (hc : ∀ v, v ∈ a → isCell v = true) (ha : VRels φ a fa) : VRel φ (.agg n a) (.agg fa.toArray)
  | tup {a : List AV} {fa : List Value} (ha : VRels φ a fa) : VRel φ (.tup a) (.tuple fa.toArray)
inductive VRels (φ : Phi) : List AV → List Value → Prop
  | nil : VRels φ [] []
  | cons {v : AV} {c : Value} {vs : List AV} {cs : List Value} (h : VRel φ v c) (hs : VRels φ vs cs) : VRels φ (v :: vs) (c :: cs)
end

mutual
theorem VRel.mono {φ φ' : Phi} (hle : φ.le φ') {v : AV} {c : Value} : VRel φ v c → VRel φ' v c
  | .bool b => .bool b
  | .int k n => .int k n
  | .str h => .str h
  | .nilp => .nilp
  | .ptr h => .ptr (hle _ _ h)
  | .nils => .nils
  | .slc h h' => .slc (hle _ _ h) h'
  | .opn h a b c => .opn (hle _ _ h) a b c
  | .opn0 h a => .opn0 (hle _ _ h) a
  | .nilm => .nilm
  | .map h => .map (hle _ _ h)
  | .nilf => .nilf
  | .fn a b => .fn (a.mono hle) (b.mono hle)
  | .mth a => .mth (a.mono hle)
  | .yld h => .yld (hle _ _ h)
  | .nili => .nili
  | .ifc h => .ifc (h.mono hle)
  | .agg hn hc h => .agg hn hc (h.mono hle)
  | .tup h => .tup (h.mono hle)
theorem VRels.mono {φ φ' : Phi} (hle : φ.le φ') {v : List AV} {c : List Value} : VRels φ v c → VRels φ' v c
  | .nil => .nil
  | .cons h t => .cons (h.mono hle) (t.mono hle)
end

theorem VRel.und (φ : Phi) : VRel φ .und undef := .tup .nil

section vrels
variable {φ : Phi}
theorem VRels.length {v : List AV} {c : List Value} (h : VRels φ v c) : v.length = c.length := by
  induction v generalizing c with
  | nil => cases h; rfl
  | cons a t ih => cases h with | cons _ hs => simp [ih hs]

theorem VRels.append {v v' : List AV} {c c' : List Value} (h : VRels φ v c) (h' : VRels φ v' c') : VRels φ (v ++ v') (c ++ c') := by
  induction v generalizing c with
  | nil => cases h; exact h'
  | cons a t ih => cases h with | cons ha hs => exact .cons ha (ih hs)

theorem VRels.take {v : List AV} {c : List Value} (n : Nat) (h : VRels φ v c) : VRels φ (v.take n) (c.take n) := by
  induction v generalizing c n with
  | nil => cases h; simp; exact .nil
  | cons a t ih => cases h with | cons ha hs => cases n with
    | zero => exact .nil
    | succ n => exact .cons ha (ih n hs)

theorem VRels.drop {v : List AV} {c : List Value} (n : Nat) (h : VRels φ v c) : VRels φ (v.drop n) (c.drop n) := by
  induction v generalizing c n with
  | nil => cases h; simp; exact .nil
  | cons a t ih => cases h with | cons ha hs => cases n with
    | zero => exact .cons ha hs
    | succ n => exact ih n hs

theorem VRels.get {v : List AV} {c : List Value} (h : VRels φ v c) {i : Nat} {x : AV} (hx : v[i]? = some x) : ∃ y, c[i]? = some y ∧ VRel φ x y := by
  induction v generalizing c i with
  | nil => simp at hx
  | cons a t ih => cases h with | cons ha hs => cases i with
    | zero => simp at hx; subst hx; exact ⟨_, rfl, ha⟩
    | succ i => simp at hx; obtain ⟨y, e, r⟩ := ih hs hx; exact ⟨y, by simpa using e, r⟩

theorem VRels.of_get {v : List AV} {c : List Value} (hl : v.length = c.length) (h : ∀ (i : Nat) (x : AV) (y : Value), v[i]? = some x → c[i]? = some y → VRel φ x y) : VRels φ v c := by
  induction v generalizing c with
  | nil => cases c with
    | nil => exact .nil
    | cons _ _ => simp at hl
  | cons a t ih => cases c with
    | nil => simp at hl
    | cons b u => exact .cons (h 0 a b rfl rfl) (ih (by simpa using hl) fun i x y hx hy => h (i + 1) x y (by simpa using hx) (by simpa using hy))
end vrels

theorem VRel.cells_size_agg {φ : Phi} {n : Nat} {a : List AV} {c : Value} (h : VRel φ (.agg n a) c) : ∃ fa : List Value, c = .agg fa.toArray ∧ fa.length = n ∧ a.length = n ∧ VRels φ a fa ∧ ∀ v, v ∈ a → isCell v = true := by
  cases h with | agg hn hc ha => exact ⟨_, rfl, by rw [← ha.length, hn], hn, ha, hc⟩

/-- Temporaries. -/
def TmRel (φ : Phi) (n : Nat) (tm : PT AV) (c : Array Value) : Prop :=
  n ≤ c.size ∧ n ≤ 1048576 ∧ ∀ t, t < n → VRel φ (tmGet tm (K.of t)) (c.getD t undef)

theorem tmGet_eq (tm : PT AV) (k : K) : tmGet tm k = (tm.get k).getD .und := by
  unfold tmGet; cases tm.get k <;> rfl

theorem TmRel.mono {φ φ' : Phi} {n : Nat} {tm : PT AV} {c : Array Value} (h : TmRel φ n tm c) (hle : φ.le φ') : TmRel φ' n tm c :=
  ⟨h.1, h.2.1, fun t ht => (h.2.2 t ht).mono hle⟩

theorem TmRel.put {φ : Phi} {n : Nat} {tm : PT AV} {c : Array Value} (h : TmRel φ n tm c) {d : Nat} (hd : d < n) {v : AV} {cv : Value} (hv : VRel φ v cv) :
    TmRel φ n (tm.put (some v) (K.of d)) (c.setIfInBounds d cv) := by
  refine ⟨by simpa using h.1, h.2.1, fun t ht => ?_⟩
  have hn := h.2.1
  by_cases e : t = d
  · subst e
    rw [tmGet_eq, PT.get_put_same]
    have hs : t < c.size := Nat.lt_of_lt_of_le ht h.1
    simpa [Array.getD_eq_getD_getElem?, hs] using hv
  · rw [tmGet_eq, PT.get_put_ne _ (fun e' => e (K.of_inj (by omega) (by omega) e')), ← tmGet_eq]
    have := h.2.2 t ht
    simpa [Array.getD_eq_getD_getElem?, Array.getElem?_setIfInBounds_ne (Ne.symm e)] using this

/-! Objects -/
def fzOk (frz : Frz) (f : Nat × Nat) (size last : Nat) : Prop :=
  match frz with
  | .no => f = (0, 0)
  | .str => ∀ i, i < size → ¬ (f.1 ≤ i ∧ i < f.2)
  | .yes => f.2 ≤ last

structure CRel (φ : Phi) (n s : Nat) (d : List AV) (cs : PT (List AV)) (opn : Bool) (frz : Frz) (l : Loc) (c : Array Value) (f : Nat × Nat) : Prop where
  small : n ≤ 1048576
  spos : 0 < s
  len : ∀ i, i < n → (chunk d cs i).length = s
  cell : ∀ i, i < n → ∀ j v, (chunk d cs i)[j]? = some v → ∃ cv, c[l.off + (i * s + j)]? = some cv ∧ VRel φ v cv
  ok : ∀ i, i < n → ∀ v, v ∈ chunk d cs i → isCell v = true
  frozen : fzOk frz f c.size (l.off + n * s)
  shut : opn = false → l.off = 0 ∧ c.size = n * s
  wide : opn = true → l.sz = s ∧ n * s ≤ l.tot ∧ l.off + l.tot ≤ c.size ∧ s ∣ l.tot

def exitCode : AExit → Option Code
  | .normal => none
  | .exit id => some (.exit id)
  | .goto l => some (.goto l)
  | .ret => some .ret

def lstate : LState → LoopState
  | .ready => .ready
  | .busy => .busy
  | .done => .done
  | .over => .exhausted

inductive ERel (φ : Phi) : List (AV × AV × Nat) → List MapEntry → Prop
  | nil : ERel φ [] []
  | cons {k v : AV} {ck cv : Value} {b : Nat} {es : List (AV × AV × Nat)} {ces : List MapEntry} (hk : VRel φ k ck) (hv : VRel φ v cv) (h : ERel φ es ces) :
      ERel φ ((k, v, b) :: es) ({ key := ck, val := cv, born := b } :: ces)

theorem ERel.mono {φ φ' : Phi} (hle : φ.le φ') {a : List (AV × AV × Nat)} {b : List MapEntry} (h : ERel φ a b) : ERel φ' a b := by
  induction h with
  | nil => exact .nil
  | cons hk hv _ ih => exact .cons (hk.mono hle) (hv.mono hle) ih

def ORel (φ : Phi) (o : AObj) (l : Loc) (X : Obj) : Prop :=
  match o with
  | .cells n s d cs e opn frz => ∃ c f, X = .cells c e f ∧ CRel φ n s d cs opn frz l c f
  | .map es clock => ∃ ces : List MapEntry, X = .map ces.toArray clock ∧ ERel φ es ces
  | .mapIter m since seen stepped => l.off = 0 ∧ ∃ lm, φ m = some lm ∧ X = .mapIter (some lm.blk) since seen.toArray stepped
  | .nilIter => l.off = 0 ∧ X = .mapIter none 0 #[] 0
  | .strIter s pos => l.off = 0 ∧ ∃ bs : ByteArray, X = .stringIter bs pos ∧ bs.data.toList.map (·.toNat) = s
  | .loop st pend fn tm n params assign body dfs => ∃ ctm ld, φ dfs = some ld ∧
      X = .loop { state := lstate st, pending := exitCode pend, fn, tmps := ctm, params := params.toArray, assign, body, defers := ld.blk } ∧ TmRel φ n tm ctm
  | .deferred op => X = .deferred (if op then some [] else none)

theorem CRel.mono {φ φ' : Phi} (hle : φ.le φ') {n s : Nat} {d : List AV} {cs : PT (List AV)} {opn : Bool} {frz : Frz} {l : Loc} {c : Array Value} {f : Nat × Nat}
    (h : CRel φ n s d cs opn frz l c f) : CRel φ' n s d cs opn frz l c f :=
  { h with cell := fun i hi j v hv => let ⟨cv, e, r⟩ := h.cell i hi j v hv; ⟨cv, e, r.mono hle⟩ }

theorem ORel.mono {φ φ' : Phi} (hle : φ.le φ') {o : AObj} {l : Loc} {X : Obj} (h : ORel φ o l X) : ORel φ' o l X := by
  cases o with
  | cells n s d cs e opn frz => obtain ⟨c, f, e, r⟩ := h; exact ⟨c, f, e, r.mono hle⟩
  | map es clock => obtain ⟨c, e, r⟩ := h; exact ⟨c, e, r.mono hle⟩
  | mapIter m since seen stepped => obtain ⟨h0, lm, e, r⟩ := h; exact ⟨h0, lm, hle _ _ e, r⟩
  | nilIter => exact h
  | strIter s pos => exact h
  | loop st pend fn tm n params assign body dfs => obtain ⟨c, ld, e, r, t⟩ := h; exact ⟨c, ld, hle _ _ e, r, t.mono hle⟩
  | deferred op => exact h

structure Rel (φ : Phi) (h : Hp) (w : World) : Prop where
  fresh : ∀ k, h.next.toNat ≤ k.toNat → φ k = none
  objs : ∀ k o, h.get k = some o → ∃ l X, φ k = some l ∧ w.heap[l.blk]? = some X ∧ ORel φ o l X
  inj : ∀ k k' o o' l l', h.get k = some o → h.get k' = some o' → φ k = some l → φ k' = some l' → l.blk = l'.blk → k = k'
  bound : ∀ k l, φ k = some l → l.blk < w.heap.size

/-- Whether a block of the world is one of a live block of the abstract heap. -/
def Live (φ : Phi) (h : Hp) (b : Nat) : Prop := ∃ k o l, h.get k = some o ∧ φ k = some l ∧ l.blk = b

/-- What a run leaves as it was. -/
structure Ext (φ : Phi) (h : Hp) (w : World) (φ' : Phi) (h' : Hp) (w' : World) : Prop where
  le : φ.le φ'
  next : h.next.toNat ≤ h'.next.toNat
  size : w.heap.size ≤ w'.heap.size
  img : ∀ b, b < w.heap.size → Live φ' h' b → Live φ h b
  keep : ∀ b, b < w.heap.size → ¬ Live φ h b → w'.heap[b]? = w.heap[b]?
  os : w'.os = w.os
  out : w'.output = w.output
  tape : w'.tape = w.tape
  old : ∀ k, φ k = none → k.toNat < h.next.toNat → φ' k = none

theorem Ext.refl (φ : Phi) (h : Hp) (w : World) : Ext φ h w φ h w :=
  ⟨φ.le_refl, Nat.le_refl _, Nat.le_refl _, fun _ _ e => e, fun _ _ _ => rfl, rfl, rfl, rfl, fun _ e _ => e⟩

theorem Ext.trans {φ φ₁ φ₂ : Phi} {h h₁ h₂ : Hp} {w w₁ w₂ : World} (a : Ext φ h w φ₁ h₁ w₁) (b : Ext φ₁ h₁ w₁ φ₂ h₂ w₂) : Ext φ h w φ₂ h₂ w₂ where
  le := Phi.le_trans a.le b.le
  next := Nat.le_trans a.next b.next
  size := Nat.le_trans a.size b.size
  img := fun x hx hl => a.img x hx (b.img x (Nat.lt_of_lt_of_le hx a.size) hl)
  keep := fun x hx hl => (b.keep x (Nat.lt_of_lt_of_le hx a.size) (fun hl' => hl (a.img x hx hl'))).trans (a.keep x hx hl)
  os := b.os.trans a.os
  out := b.out.trans a.out
  tape := b.tape.trans a.tape
  old := fun k e hk => b.old k (a.old k e hk) (Nat.lt_of_lt_of_le hk a.next)

/-! The heap's operations -/
theorem Hp.get_set_same (h : Hp) (b : K) (o : AObj) : (h.set b o).get b = some o := PT.get_put_same _ _ _
theorem Hp.get_set_ne (h : Hp) {b k : K} (o : AObj) (hne : k ≠ b) : (h.set b o).get k = h.get k := PT.get_put_ne _ hne _
theorem Hp.get_del_same (h : Hp) (b : K) : (h.del b).get b = none := PT.get_put_same _ _ _
theorem Hp.get_del_ne (h : Hp) {b k : K} (hne : k ≠ b) : (h.del b).get k = h.get k := PT.get_put_ne _ hne _
theorem Hp.get_new_same (h : Hp) (o : AObj) : (h.new o).get h.next = some o := PT.get_put_same _ _ _
theorem Hp.get_new_ne (h : Hp) {k : K} (o : AObj) (hne : k ≠ h.next) : (h.new o).get k = h.get k := PT.get_put_ne _ hne _

def World.upd (w : World) (b : Nat) (X : Obj) : World := { w with heap := w.heap.setIfInBounds b X }
def World.push (w : World) (X : Obj) : World := { w with heap := w.heap.push X }

theorem Rel.lt_next {φ : Phi} {h : Hp} {w : World} (r : Rel φ h w) {k : K} {l : Loc} (e : φ k = some l) : k.toNat < h.next.toNat := by
  apply Nat.lt_of_not_le
  intro hle
  rw [r.fresh k hle] at e; cases e

theorem Rel.ne_next {φ : Phi} {h : Hp} {w : World} (r : Rel φ h w) {k : K} {o : AObj} (e : h.get k = some o) : k ≠ h.next := by
  rintro rfl
  obtain ⟨l, X, hl, _⟩ := r.objs _ _ e
  exact absurd (r.lt_next hl) (Nat.lt_irrefl _)

/-- An object of the abstract heap changes, and its block with it. -/
theorem Rel.set {φ : Phi} {h : Hp} {w : World} (r : Rel φ h w) {b : K} {o o' : AObj} {l : Loc} (hb : h.get b = some o) (hl : φ b = some l) {X : Obj} (hX : ORel φ o' l X) :
    Rel φ (h.set b o') (World.upd w l.blk X) ∧ Ext φ h w φ (h.set b o') (World.upd w l.blk X) := by
  have hlt := r.bound b l hl
  have hsz : (World.upd w l.blk X).heap.size = w.heap.size := by simp [World.upd]
  constructor
  · refine ⟨r.fresh, fun k u hk => ?_, fun k k' u u' m m' hk hk' hm hm' e => ?_, fun k m hm => by rw [hsz]; exact r.bound k m hm⟩
    · by_cases e : k = b
      · subst e
        rw [Hp.get_set_same] at hk; cases hk
        exact ⟨l, X, hl, by simp [World.upd, hlt], hX⟩
      · rw [Hp.get_set_ne _ _ e] at hk
        obtain ⟨m, Y, hm, hY, hr⟩ := r.objs k u hk
        refine ⟨m, Y, hm, ?_, hr⟩
        have hne : l.blk ≠ m.blk := fun e' => e (r.inj k b u o m l hk hb hm hl e'.symm)
        rw [← hY]; exact Array.getElem?_setIfInBounds_ne hne
    · have live : ∀ k u, (h.set b o').get k = some u → ∃ u, h.get k = some u := by
        intro k u hk
        by_cases e : k = b
        · exact ⟨o, e ▸ hb⟩
        · rw [Hp.get_set_ne _ _ e] at hk; exact ⟨u, hk⟩
      obtain ⟨v, hv⟩ := live k u hk
      obtain ⟨v', hv'⟩ := live k' u' hk'
      exact r.inj k k' v v' m m' hv hv' hm hm' e
  · refine ⟨φ.le_refl, Nat.le_refl _, Nat.le_of_eq hsz.symm, fun x _ hx => ?_, fun x _ hx => ?_, rfl, rfl, rfl, fun _ e _ => e⟩
    · obtain ⟨k, u, m, hk, hm, e⟩ := hx
      by_cases e' : k = b
      · exact ⟨b, o, m, hb, e' ▸ hm, e⟩
      · rw [Hp.get_set_ne _ _ e'] at hk; exact ⟨k, u, m, hk, hm, e⟩
    · have hne : l.blk ≠ x := fun e => hx ⟨b, o, l, hb, hl, e⟩
      exact Array.getElem?_setIfInBounds_ne hne

open Classical in
noncomputable def Phi.add (φ : Phi) (b : K) (l : Loc) : Phi := fun k => if k = b then some l else φ k

theorem Phi.add_same (φ : Phi) (b : K) (l : Loc) : φ.add b l b = some l := by simp [Phi.add]
theorem Phi.add_ne (φ : Phi) {b k : K} (l : Loc) (h : k ≠ b) : φ.add b l k = φ k := by simp [Phi.add, h]
theorem Phi.le_add {φ : Phi} {b : K} (l : Loc) (h : φ b = none) : φ.le (φ.add b l) := by
  intro k m hm
  by_cases e : k = b
  · subst e; rw [h] at hm; cases hm
  · rw [φ.add_ne l e]; exact hm

/-- A new object in a new block. -/
theorem Rel.new {φ : Phi} {h : Hp} {w : World} (r : Rel φ h w) {o' : AObj} (l : Loc) (hl : l.blk = w.heap.size) {X : Obj} (hX : ORel (φ.add h.next l) o' l X) :
    Rel (φ.add h.next l) (h.new o') (World.push w X) ∧ Ext φ h w (φ.add h.next l) (h.new o') (World.push w X) := by
  have hsz : (World.push w X).heap.size = w.heap.size + 1 := by simp [World.push]
  have hle : φ.le (φ.add h.next l) := Phi.le_add l (r.fresh _ (Nat.le_refl _))
  have hold : ∀ k u, (h.new o').get k = some u → k ≠ h.next → h.get k = some u := fun k u hk e => by rwa [Hp.get_new_ne _ _ e] at hk
  constructor
  · refine ⟨fun k hk => ?_, fun k u hk => ?_, fun k k' u u' m m' hk hk' hm hm' e => ?_, fun k m hm => ?_⟩
    · have hk : h.next.succ.toNat ≤ k.toNat := hk
      rw [K.toNat_succ] at hk
      rw [φ.add_ne l (by rintro rfl; omega)]
      exact r.fresh k (by omega)
    · by_cases e : k = h.next
      · subst e
        rw [Hp.get_new_same] at hk; cases hk
        exact ⟨l, X, φ.add_same _ l, (by rw [hl]; exact (show (w.heap.push X)[w.heap.size]? = some X from Array.getElem?_push_size)), hX⟩
      · obtain ⟨m, Y, hm, hY, hr⟩ := r.objs k u (hold k u hk e)
        refine ⟨m, Y, hle _ _ hm, ?_, hr.mono hle⟩
        have hlt := r.bound k m hm
        simp only [World.push]
        rw [Array.getElem?_push_lt hlt]
        rw [← hY]; simp [Array.getElem?_eq_getElem hlt]
    · by_cases e1 : k = h.next
      · by_cases e2 : k' = h.next
        · rw [e1, e2]
        · exfalso
          rw [e1, φ.add_same] at hm; cases hm
          rw [φ.add_ne l e2] at hm'
          have := r.bound k' m' hm'
          omega
      · by_cases e2 : k' = h.next
        · exfalso
          rw [e2, φ.add_same] at hm'; cases hm'
          rw [φ.add_ne l e1] at hm
          have := r.bound k m hm
          omega
        · rw [φ.add_ne l e1] at hm
          rw [φ.add_ne l e2] at hm'
          exact r.inj k k' u u' m m' (hold k u hk e1) (hold k' u' hk' e2) hm hm' e
    · rw [hsz]
      by_cases e : k = h.next
      · rw [e, φ.add_same] at hm; cases hm; omega
      · rw [φ.add_ne l e] at hm
        have := r.bound k m hm; omega
  · refine ⟨hle, by show h.next.toNat ≤ h.next.succ.toNat; rw [K.toNat_succ]; omega, by rw [hsz]; omega, fun x hx hl' => ?_, fun x hx _ => ?_, rfl, rfl, rfl, fun k e hk => by rw [φ.add_ne l (by rintro rfl; omega)]; exact e⟩
    · obtain ⟨k, u, m, hk, hm, e⟩ := hl'
      by_cases e' : k = h.next
      · rw [e', φ.add_same] at hm; cases hm; omega
      · rw [φ.add_ne l e'] at hm
        exact ⟨k, u, m, hold k u hk e', hm, e⟩
    · simp only [World.push]
      rw [Array.getElem?_push_lt hx]; simp [Array.getElem?_eq_getElem hx]

/-- A block dies, and a new one takes its place in the world. -/
theorem Rel.renew {φ : Phi} {h : Hp} {w : World} (r : Rel φ h w) {b : K} {o o' : AObj} {lb : Loc} (hb : h.get b = some o) (hlb : φ b = some lb) (l : Loc) (hl : l.blk = lb.blk) {X : Obj}
    (hX : ORel (φ.add h.next l) o' l X) :
    Rel (φ.add h.next l) ((h.del b).new o') (World.upd w l.blk X) ∧ Ext φ h w (φ.add h.next l) ((h.del b).new o') (World.upd w l.blk X) := by
  have hlt := r.bound b lb hlb
  have hsz : (World.upd w l.blk X).heap.size = w.heap.size := by simp [World.upd]
  have hle : φ.le (φ.add h.next l) := Phi.le_add l (r.fresh _ (Nat.le_refl _))
  have hnb : b ≠ h.next := r.ne_next hb
  have hold : ∀ k u, ((h.del b).new o').get k = some u → k ≠ h.next → h.get k = some u ∧ k ≠ b := by
    intro k u hk e
    have hk : ((h.del b).objs.put (some o') h.next).get k = some u := hk
    rw [PT.get_put_ne _ e] at hk
    by_cases e' : k = b
    · subst e'
      have := Hp.get_del_same h k
      rw [show (h.del k).objs.get k = (h.del k).get k from rfl, this] at hk; cases hk
    · rw [show (h.del b).objs.get k = (h.del b).get k from rfl, Hp.get_del_ne _ e'] at hk
      exact ⟨hk, e'⟩
  have hnew : ∀ u, ((h.del b).new o').get h.next = some u → u = o' := by
    intro u hu
    have : ((h.del b).new o').get (h.del b).next = some o' := Hp.get_new_same _ _
    rw [show (h.del b).next = h.next from rfl, hu] at this
    cases this; rfl
  constructor
  · refine ⟨fun k hk => ?_, fun k u hk => ?_, fun k k' u u' m m' hk hk' hm hm' e => ?_, fun k m hm => ?_⟩
    · have hk : h.next.succ.toNat ≤ k.toNat := hk
      rw [K.toNat_succ] at hk
      rw [φ.add_ne l (by rintro rfl; omega)]
      exact r.fresh k (by omega)
    · by_cases e : k = h.next
      · subst e
        rw [hnew u hk]
        exact ⟨l, X, φ.add_same _ l, by simp [World.upd, hl, hlt], hX⟩
      · obtain ⟨hk', hkb⟩ := hold k u hk e
        obtain ⟨m, Y, hm, hY, hr⟩ := r.objs k u hk'
        refine ⟨m, Y, hle _ _ hm, ?_, hr.mono hle⟩
        have hne : l.blk ≠ m.blk := fun e' => hkb (r.inj k b u o m lb hk' hb hm hlb (by rw [← e', hl]))
        rw [← hY]; exact Array.getElem?_setIfInBounds_ne hne
    · by_cases e1 : k = h.next
      · by_cases e2 : k' = h.next
        · rw [e1, e2]
        · exfalso
          rw [e1, φ.add_same] at hm; cases hm
          rw [φ.add_ne l e2] at hm'
          obtain ⟨hk2, hkb⟩ := hold k' u' hk' e2
          exact hkb (r.inj k' b u' o m' lb hk2 hb hm' hlb (by rw [← e, hl]))
      · obtain ⟨hk1, hkb1⟩ := hold k u hk e1
        rw [φ.add_ne l e1] at hm
        by_cases e2 : k' = h.next
        · exfalso
          rw [e2, φ.add_same] at hm'; cases hm'
          exact hkb1 (r.inj k b u o m lb hk1 hb hm hlb (by rw [e, hl]))
        · rw [φ.add_ne l e2] at hm'
          exact r.inj k k' u u' m m' hk1 (hold k' u' hk' e2).1 hm hm' e
    · rw [hsz]
      by_cases e : k = h.next
      · rw [e, φ.add_same] at hm; cases hm; omega
      · rw [φ.add_ne l e] at hm
        exact r.bound k m hm
  · refine ⟨hle, by show h.next.toNat ≤ h.next.succ.toNat; rw [K.toNat_succ]; omega, by rw [hsz]; omega, fun x hx hl' => ?_, fun x hx hx' => ?_, rfl, rfl, rfl, fun k e hk => by rw [φ.add_ne l (by rintro rfl; omega)]; exact e⟩
    · obtain ⟨k, u, m, hk, hm, e⟩ := hl'
      by_cases e' : k = h.next
      · rw [e', φ.add_same] at hm; cases hm
        exact ⟨b, o, lb, hb, hlb, by rw [← hl, e]⟩
      · rw [φ.add_ne l e'] at hm
        exact ⟨k, u, m, (hold k u hk e').1, hm, e⟩
    · have hne : l.blk ≠ x := fun e => hx' ⟨b, o, lb, hb, hlb, by rw [← hl, e]⟩
      exact Array.getElem?_setIfInBounds_ne hne

/-- A block dies, and a new one lies in a new block. -/
theorem Rel.del {φ : Phi} {h : Hp} {w : World} (r : Rel φ h w) (b : K) : Rel φ (h.del b) w ∧ Ext φ h w φ (h.del b) w := by
  have hold : ∀ k u, (h.del b).get k = some u → h.get k = some u := by
    intro k u hk
    by_cases e : k = b
    · subst e; rw [Hp.get_del_same] at hk; cases hk
    · rwa [Hp.get_del_ne _ e] at hk
  constructor
  · exact ⟨r.fresh, fun k u hk => r.objs k u (hold k u hk), fun k k' u u' m m' hk hk' => r.inj k k' u u' m m' (hold k u hk) (hold k' u' hk'), r.bound⟩
  · exact ⟨φ.le_refl, Nat.le_refl _, Nat.le_refl _, fun x _ ⟨k, u, m, hk, hm, e⟩ => ⟨k, u, m, hold k u hk, hm, e⟩, fun _ _ _ => rfl, rfl, rfl, rfl, fun _ e _ => e⟩

theorem Rel.drawn {φ : Phi} {h : Hp} {w : World} (r : Rel φ h w) (n : Nat) : Rel φ h { w with drawn := n } ∧ Ext φ h w φ h { w with drawn := n } :=
  ⟨⟨r.fresh, r.objs, r.inj, r.bound⟩, ⟨φ.le_refl, Nat.le_refl _, Nat.le_refl _, fun _ _ e => e, fun _ _ _ => rfl, rfl, rfl, rfl, fun _ e _ => e⟩⟩

end Go.AX

/- THE ENGINE: runs of the model's small programs. -/
namespace Go.AX
set_option linter.unusedSimpArgs false
set_option linter.unusedVariables false

variable {P : Program}

theorem ok_bind {α β : Type} {s : Sem α} {f : α → Sem β} {w w₁ w₂ : World} {a : α} {b : β} (h : s.run P w = .ok a w₁) (h' : (f a).run P w₁ = .ok b w₂) :
    (s >>= f).run P w = .ok b w₂ := by
  rw [Sem.run_bind, h]; exact h'

/-- The tables hold what the program says. -/
def TabOk (P : Program) (T : PT TI) : Prop := ∀ t ti, t < 65536 → T.get (K.of t) = some ti → P.info? t = some ti.info ∧ P.underlying t = some ti.und

section tabs
variable {T : Cx} (hT : TabOk P T.types)
include hT

theorem tinf_ok {t : TypeId} {ti : TI} (h : tinf T t = some ti) : P.info? t = some ti.info ∧ P.underlying t = some ti.und := by
  unfold tinf at h
  cases hb : Nat.blt t 65536 with
  | true => rw [hb] at h; exact hT t ti (natblt.1 hb) h
  | false => rw [hb] at h; cases h

omit hT in
theorem tinf_of_und {t : TypeId} {d : TypeDesc} (h : undT T t = d) (hd : d ≠ .invalid) : ∃ ti, tinf T t = some ti ∧ ti.und = d := by
  unfold undT at h
  cases ht : tinf T t with
  | none => rw [ht] at h; exact absurd h.symm hd
  | some ti => rw [ht] at h; exact ⟨ti, rfl, h⟩

theorem und_ok {t : TypeId} {d : TypeDesc} (h : undT T t = d) (hd : d ≠ .invalid) : P.underlying t = some d := by
  obtain ⟨ti, ht, e⟩ := tinf_of_und h hd
  rw [(tinf_ok hT ht).2, e]

theorem size_ok {t : TypeId} (h : sizeT T t ≠ 0) : ∃ ti, tinf T t = some ti ∧ P.info? t = some ti.info ∧ ti.info.size = sizeT T t := by
  unfold sizeT at h ⊢
  cases ht : tinf T t with
  | none => rw [ht] at h; exact absurd rfl h
  | some ti => exact ⟨ti, rfl, (tinf_ok hT ht).1, rfl⟩

theorem run_und {t : TypeId} {d : TypeDesc} (h : undT T t = d) (hd : d ≠ .invalid) (w : World) : (underlying t).run P w = .ok d w :=
  run_underlying (und_ok hT h hd) w

theorem run_size {t : TypeId} (h : sizeT T t ≠ 0) (w : World) : (sizeOf t).run P w = .ok (sizeT T t) w := by
  obtain ⟨ti, _, hi, hs⟩ := size_ok hT h
  simp [sizeOf, typeInfo, hi, hs]

theorem run_size_of_und {t : TypeId} {d : TypeDesc} (h : undT T t = d) (hd : d ≠ .invalid) (w : World) : (sizeOf t).run P w = .ok (sizeT T t) w := by
  obtain ⟨ti, ht, _⟩ := tinf_of_und h hd
  simp [sizeOf, typeInfo, (tinf_ok hT ht).1, sizeT, ht]

theorem run_info_of_und {t : TypeId} {d : TypeDesc} (h : undT T t = d) (hd : d ≠ .invalid) (w : World) :
    ∃ ti, tinf T t = some ti ∧ (typeInfo t).run P w = .ok ti.info w := by
  obtain ⟨ti, ht, _⟩ := tinf_of_und h hd
  exact ⟨ti, ht, by simp [typeInfo, (tinf_ok hT ht).1]⟩

/-- What isAgg says is what the tables say, where the type is known. -/
theorem run_isAgg {t : TypeId} {ti : TI} (ht : tinf T t = some ti) (w : World) : (isAgg t).run P w = .ok (isAggD (undT T t)) w := by
  have hu := (tinf_ok hT ht).2
  have hd : undT T t = ti.und := by unfold undT; rw [ht]
  simp only [isAgg, Sem.run_bind, run_underlying hu, Result.andThen, hd]
  cases ti.und <;> simp [isAggD]

omit hT in
theorem zcells_ok {t : TypeId} {z : List AV} (h : zcells T t = some z) :
    ∃ ti zv, tinf T t = some ti ∧ ti.info.zero = some zv ∧ zv.cells.toList.all okC = true ∧ zv.cells.size = sizeT T t ∧ sizeT T t ≠ 0 ∧ z = zv.cells.toList.map ofC := by
  unfold zcells zeroT at h
  cases ht : tinf T t with
  | none => rw [ht] at h; cases h
  | some ti =>
    rw [ht] at h
    cases hz : ti.info.zero with
    | none => simp only [hz] at h; cases h
    | some zv =>
      simp only [hz] at h
      cases hb : (zv.cells.toList.all okC && Nat.beq zv.cells.size (sizeT T t) && !Nat.beq (sizeT T t) 0) with
      | false => rw [hb] at h; cases h
      | true =>
        rw [hb] at h
        simp only [cond_true, Option.some.injEq] at h
        simp only [Bool.and_eq_true, Bool.not_eq_true'] at hb
        refine ⟨ti, zv, rfl, hz, hb.1.1, natbeq.1 hb.1.2, ?_, h.symm⟩
        intro e; rw [e] at hb; simp at hb

theorem run_zero_of {t : TypeId} {ti : TI} {zv : Value} (ht : tinf T t = some ti) (hz : ti.info.zero = some zv) (w : World) : (zeroValue t).run P w = .ok zv w := by
  simp [zeroValue, typeInfo, (tinf_ok hT ht).1, hz]
end tabs

/-! Constants -/
theorem ofC_rel (φ : Phi) {v : Value} (h : okC v = true) : VRel φ (ofC v) v := by
  unfold okC at h
  split at h <;> first
    | exact .bool _
    | exact .int _ _
    | exact .str rfl
    | exact .nilp
    | exact .nils
    | exact .nilm
    | exact .nilf
    | exact .nili
    | (rename_i f a b
       simp only [Bool.and_eq_true, Array.isEmpty_iff] at h
       obtain ⟨rfl, rfl⟩ := h
       exact .fn .nil .nil)
    | cases h

theorem ofCs_rel (φ : Phi) {l : List Value} (h : l.all okC = true) : VRels φ (l.map ofC) l := by
  induction l with
  | nil => exact .nil
  | cons a t ih =>
    simp only [List.all_cons, Bool.and_eq_true] at h
    exact .cons (ofC_rel φ h.1) (ih h.2)

theorem ofC_cell {v : Value} (h : okC v = true) : isCell (ofC v) = true := by
  unfold okC at h
  split at h <;> first | rfl | cases h

theorem ofV_rel (φ : Phi) {v : Value} (h : okV v = true) : VRel φ (ofV v) v := by
  unfold okV at h
  split at h
  · rename_i cs
    have := ofCs_rel φ h
    refine .agg (fa := cs.toList) (by simp) (fun v hv => ?_) this
    obtain ⟨u, hu, rfl⟩ := List.mem_map.1 hv
    exact ofC_cell (List.all_eq_true.1 h u hu)
  · rename_i hne
    unfold ofV
    split
    · rename_i cs; exact absurd rfl (hne cs)
    · exact ofC_rel φ h

def evalC (c : Array Value) : Operand → Value
  | .tmp t => c.getD t undef
  | .const v => v
  | .global g => .pointer (some ⟨g, 0, none⟩)
  | .func f => .func (.func f) #[] #[]

/-- Each package-level variable is at its place. -/
def GlobOk (φ : Phi) (g : Nat) : Prop := ∀ i, i < g → ∃ l, φ (K.of i) = some l ∧ l.blk = i ∧ l.off = 0

theorem GlobOk.mono {φ φ' : Phi} {g : Nat} (h : GlobOk φ g) (hle : φ.le φ') : GlobOk φ' g := fun i hi => let ⟨l, e, r⟩ := h i hi; ⟨l, hle _ _ e, r⟩

theorem ev_t (tm : PT AV) (k : K) : ev tm (.t k) = tmGet tm k := rfl
theorem ev_c (tm : PT AV) (v : AV) : ev tm (.c v) = v := rfl

theorem cO_rel {T : Cx} {x : Operand} {a : AO} (h : cO T x = some a) {φ : Phi} {tm : PT AV} {c : Array Value} (ht : TmRel φ T.n tm c) (hg : GlobOk φ T.g) :
    VRel φ (ev tm a) (evalC c x) := by
  unfold cO at h
  split at h
  · rename_i t
    cases hb : Nat.blt t T.n with
    | false => rw [hb] at h; cases h
    | true => rw [hb] at h; cases h; exact ht.2.2 t (natblt.1 hb)
  · rename_i v
    cases hb : okV v with
    | false => rw [hb] at h; cases h
    | true => rw [hb] at h; cases h; exact ofV_rel φ hb
  · rename_i g
    cases hb : Nat.blt g T.g with
    | false => rw [hb] at h; cases h
    | true =>
      rw [hb] at h; cases h
      obtain ⟨l, e, e1, e2⟩ := hg g (natblt.1 hb)
      have := VRel.ptr (φ := φ) (o := 0) e
      rw [e1, e2] at this
      exact this
  · cases h; exact .fn .nil .nil

theorem cOs_rel {T : Cx} {l : List Operand} {as : List AO} (h : cOs T l = some as) {φ : Phi} {tm : PT AV} {c : Array Value} (ht : TmRel φ T.n tm c) (hg : GlobOk φ T.g) :
    VRels φ (as.map (ev tm)) (l.map (evalC c)) := by
  induction l generalizing as with
  | nil => cases h; exact .nil
  | cons x xs ih =>
    unfold cOs at h
    split at h
    · rename_i a as' h1 h2
      cases h
      exact .cons (cO_rel h1 ht hg) (ih h2)
    · cases h

/-! Cells -/
theorem add_addr (b o n : Nat) : (⟨b, o, none⟩ : Addr).add n = ⟨b, o + n, none⟩ := by
  unfold Addr.add
  split
  · rename_i h; subst h; rfl
  · rfl

/-- Values lie one after the other in a block. -/
def Cells (φ : Phi) (w : World) (b o : Nat) (vs : List AV) (cs : List Value) : Prop :=
  VRels φ vs cs ∧ ∀ (j : Nat) (v : Value), cs[j]? = some v → w.cell? ⟨b, o + j, none⟩ = some v

theorem Cells.run {φ : Phi} {w : World} {b o : Nat} {vs : List AV} {cs : List Value} (h : Cells φ w b o vs cs) :
    (loadCells ⟨b, o, none⟩ vs.length).run P w = .ok cs.toArray w := by
  rw [h.1.length]
  exact run_loadCells_list w ⟨b, o, none⟩ cs (fun j v hj => by rw [add_addr]; exact h.2 j v hj)

theorem exists_list {α β : Type} (R : α → β → Prop) (g : Nat → Option β) : ∀ (vs : List α) (o : Nat), (∀ (j : Nat) (v : α), vs[j]? = some v → ∃ c, g (o + j) = some c ∧ R v c) →
    ∃ cs : List β, cs.length = vs.length ∧ (∀ (j : Nat) (v : α) (c : β), vs[j]? = some v → cs[j]? = some c → R v c) ∧ ∀ (j : Nat) (c : β), cs[j]? = some c → g (o + j) = some c := by
  intro vs
  induction vs with
  | nil => intro o _; exact ⟨[], rfl, fun j v c h => by simp at h, fun j c h => by simp at h⟩
  | cons v t ih =>
    intro o h
    obtain ⟨c, hc, hr⟩ := h 0 v rfl
    obtain ⟨cs, hl, h1, h2⟩ := ih (o + 1) (fun j x hx => by
      obtain ⟨c, e, r⟩ := h (j + 1) x (by simpa using hx)
      exact ⟨c, by rw [← e]; congr 1; omega, r⟩)
    refine ⟨c :: cs, by simp [hl], fun j x y hx hy => ?_, fun j y hy => ?_⟩
    · cases j with
      | zero => simp at hx hy; subst hx; subst hy; exact hr
      | succ j => exact h1 j x y (by simpa using hx) (by simpa using hy)
    · cases j with
      | zero => simp at hy; subst hy; simpa using hc
      | succ j => have := h2 j y (by simpa using hy); rw [← this]; congr 1; omega

/-- Cells of a block, out of a description of each. -/
theorem Cells.of {φ : Phi} {w : World} {b o : Nat} {vs : List AV} {c : Array Value} {e : TypeId} {f : Nat × Nat} (hw : w.heap[b]? = some (.cells c e f))
    (h : ∀ (j : Nat) (v : AV), vs[j]? = some v → ∃ cv, c[o + j]? = some cv ∧ VRel φ v cv) : ∃ cs, Cells φ w b o vs cs := by
  obtain ⟨cs, hl, h1, h2⟩ := exists_list (VRel φ) (fun i => c[i]?) vs o h
  exact ⟨cs, VRels.of_get hl.symm h1, fun j v hj => by simp [World.cell?, hw, h2 j v hj]⟩

end Go.AX

/- THE ENGINE: reading and writing of blocks. -/
namespace Go.AX
set_option linter.unusedSimpArgs false
set_option linter.unusedVariables false

variable {P : Program} {φ : Phi} {h : Hp} {w : World}

theorem Hp.get_cells (hr : Rel φ h w) {b : K} {n s : Nat} {d : List AV} {cs : PT (List AV)} {e : TypeId} {opn : Bool} {frz : Frz}
    (hb : h.get b = some (.cells n s d cs e opn frz)) {l : Loc} (hl : φ b = some l) :
    ∃ c f, w.heap[l.blk]? = some (.cells c e f) ∧ CRel φ n s d cs opn frz l c f := by
  obtain ⟨l', X, hl', hX, c, f, rfl, hc⟩ := hr.objs b _ hb
  rw [hl] at hl'; cases hl'
  exact ⟨c, f, hX, hc⟩

theorem loc_of (hr : Rel φ h w) {b : K} {o : AObj} (hb : h.get b = some o) : ∃ l, φ b = some l := by
  obtain ⟨l, _, hl, _⟩ := hr.objs b o hb; exact ⟨l, hl⟩

theorem getR_ok (hr : Rel φ h w) {b : K} {o n : Nat} {vs : List AV} (hg : getR h b o n = some vs) {l : Loc} (hl : φ b = some l) :
    ∃ cs, Cells φ w l.blk (l.off + o) vs cs ∧ vs.length = n ∧ ∀ v, v ∈ vs → isCell v = true := by
  unfold getR at hg
  split at hg
  · rename_i m s d cs e opn frz hb
    obtain ⟨c, f, hX, hc⟩ := Hp.get_cells hr hb hl
    have hs := hc.spos
    cases hcond : (Nat.blt (Nat.div o s) m && Nat.ble (Nat.add (Nat.mod o s) n) s) with
    | false => rw [hcond] at hg; cases hg
    | true =>
      rw [hcond] at hg
      simp only [Bool.and_eq_true] at hcond
      have hi : o / s < m := natblt.1 hcond.1
      have hn : o % s + n ≤ s := natble.1 hcond.2
      have ho : o = o / s * s + o % s := by have := Nat.div_add_mod o s; rw [Nat.mul_comm] at this; omega
      have hlen := hc.len _ hi
      simp only [cond_true] at hg
      cases hns : Nat.beq n s with
      | true =>
        rw [hns] at hg
        have e := natbeq.1 hns
        simp only [cond_true, Option.some.injEq] at hg
        subst hg
        have hr0 : o % s = 0 := by omega
        obtain ⟨ccs, hcc⟩ := Cells.of (φ := φ) (vs := chunk d cs (Nat.div o s)) (o := l.off + o) hX (fun j v hj => by
          obtain ⟨cv, e1, r1⟩ := hc.cell _ hi j v hj
          refine ⟨cv, ?_, r1⟩
          rw [← e1]; congr 1; show l.off + o + j = l.off + (o / s * s + j); omega)
        exact ⟨ccs, hcc, by rw [e]; exact hlen, hc.ok _ hi⟩
      | false =>
        rw [hns] at hg
        simp only [cond_false, Option.some.injEq, takeL_eq, dropL_eq] at hg
        subst hg
        obtain ⟨ccs, hcc⟩ := Cells.of (φ := φ) (vs := ((chunk d cs (Nat.div o s)).drop (Nat.mod o s)).take n) (o := l.off + o) hX (fun j v hj => by
          have hj' : (chunk d cs (o / s))[o % s + j]? = some v := by
            rw [List.getElem?_take] at hj
            split at hj
            · rw [List.getElem?_drop] at hj; exact hj
            · cases hj
          obtain ⟨cv, e1, r1⟩ := hc.cell _ hi _ v hj'
          refine ⟨cv, ?_, r1⟩
          rw [← e1]; congr 1; show l.off + o + j = l.off + (o / s * s + (o % s + j)); omega)
        refine ⟨ccs, hcc, ?_, fun v hv => hc.ok _ hi v (List.mem_of_mem_drop (List.mem_of_mem_take hv))⟩
        rw [List.length_take, List.length_drop, show (chunk d cs (Nat.div o s)).length = s from hlen]
        show min n (s - o % s) = n
        omega
  · cases hg

theorem get1_ok (hr : Rel φ h w) {b : K} {o : Nat} {v : AV} (hg : get1 h b o = some v) {l : Loc} (hl : φ b = some l) :
    ∃ cv, w.cell? ⟨l.blk, l.off + o, none⟩ = some cv ∧ VRel φ v cv ∧ isCell v = true := by
  unfold get1 at hg
  split at hg
  · rename_i m s d cs e opn frz hb
    obtain ⟨c, f, hX, hc⟩ := Hp.get_cells hr hb hl
    cases hcond : (Nat.blt (Nat.div o s) m && Nat.blt 0 s) with
    | false => rw [hcond] at hg; cases hg
    | true =>
      rw [hcond] at hg
      simp only [Bool.and_eq_true] at hcond
      have hi : o / s < m := natblt.1 hcond.1
      have ho : o = o / s * s + o % s := by have := Nat.div_add_mod o s; rw [Nat.mul_comm] at this; omega
      simp only [cond_true, nthL_eq] at hg
      obtain ⟨cv, e1, r1⟩ := hc.cell _ hi _ v hg
      refine ⟨cv, ?_, r1, hc.ok _ hi v (List.mem_of_getElem? hg)⟩
      simp only [World.cell?, hX, Option.isSome_none, Bool.false_eq_true, if_false]
      rw [← e1]; congr 1
      show l.off + o = l.off + (o / s * s + o % s)
      omega
  · cases hg

/-- The world with a row of values stored. -/
def overA (c : Array Value) (o : Nat) (vs : List Value) : Array Value :=
  match vs with
  | [] => c
  | v :: r => overA (c.setIfInBounds o v) (o + 1) r

theorem overA_size (vs : List Value) : ∀ (c : Array Value) (o : Nat), (overA c o vs).size = c.size := by
  induction vs with
  | nil => intro c o; rfl
  | cons v t ih => intro c o; show (overA _ _ t).size = _; rw [ih]; simp

theorem overA_get (vs : List Value) : ∀ (c : Array Value) (o i : Nat), o + vs.length ≤ c.size →
    (overA c o vs)[i]? = if o ≤ i ∧ i < o + vs.length then vs[i - o]? else c[i]? := by
  induction vs with
  | nil => intro c o i _; rw [if_neg (by simp only [List.length_nil]; omega)]; rfl
  | cons v t ih =>
    intro c o i hs
    simp only [List.length_cons] at hs
    show (overA (c.setIfInBounds o v) (o + 1) t)[i]? = _
    rw [ih _ _ _ (by simp; omega)]
    by_cases h1 : o + 1 ≤ i ∧ i < o + 1 + t.length
    · rw [if_pos h1, if_pos ⟨by omega, by simp only [List.length_cons]; omega⟩]
      have : i - o = (i - (o + 1)) + 1 := by omega
      rw [this]; simp
    · rw [if_neg h1]
      by_cases h2 : i = o
      · subst h2
        rw [if_pos ⟨Nat.le_refl _, by simp⟩]
        have : i < c.size := by omega
        simp [this]
      · rw [if_neg (by simp only [List.length_cons]; omega), Array.getElem?_setIfInBounds_ne (Ne.symm h2)]

theorem one_of_isCell {v : AV} {cv : Value} (hv : VRel φ v cv) (hc : isCell v = true) : (∀ a, cv ≠ .agg a) ∧ (∀ a, cv ≠ .tuple a) := by
  cases hv <;> first | (cases hc; done) | (constructor <;> (intro a e; cases e))

theorem run_store_cell {b o : Nat} {c : Array Value} {e : TypeId} {f : Nat × Nat} {w : World} {v : Value} (hX : w.heap[b]? = some (.cells c e f)) (ho : o < c.size)
    (hf : ¬ (f.1 ≤ o ∧ o < f.2)) (h1 : ∀ a, v ≠ .agg a) (h2 : ∀ a, v ≠ .tuple a) (k : Sem Unit) :
    (Sem.store .plain ⟨b, o, none⟩ v k).run P w = k.run P (World.upd w b (.cells (c.setIfInBounds o v) e f)) := by
  have hc : w.cell? ⟨b, o, none⟩ = some c[o] := by simp [World.cell?, hX, ho]
  have hfz : w.frozen? ⟨b, o, none⟩ = false := by
    obtain ⟨lo, hi⟩ := f
    simp only [World.frozen?, hX]
    simpa [Nat.not_lt] using hf
  have hs : w.setCell ⟨b, o, none⟩ v = World.upd w b (.cells (c.setIfInBounds o v) e f) := by
    unfold World.setCell World.upd
    congr 1
    apply Array.ext_getElem?
    intro i
    have hb : b < w.heap.size := by
      rcases Nat.lt_or_ge b w.heap.size with h | h
      · exact h
      · rw [Array.getElem?_eq_none h] at hX; cases hX
    by_cases hi : i = b
    · subst hi
      have hX' : w.heap[i] = .cells c e f := by simpa [Array.getElem?_eq_getElem hb] using hX
      simp [Array.getElem?_modify, Array.getElem_modify, hX', hb]
    · simp [Array.getElem?_modify, Ne.symm hi, Array.getElem?_setIfInBounds_ne (Ne.symm hi)]
  cases v <;> first
    | exact absurd rfl (h1 _)
    | exact absurd rfl (h2 _)
    | simp [Sem.run, hc, hfz, hs]

theorem run_storeCells {b o : Nat} {e : TypeId} {f : Nat × Nat} : ∀ (vs : List Value) (i : Nat) (c : Array Value) (w : World), w.heap[b]? = some (.cells c e f) →
    o + i + vs.length ≤ c.size → (∀ j, o + i ≤ j → j < o + i + vs.length → ¬ (f.1 ≤ j ∧ j < f.2)) → (∀ v ∈ vs, (∀ a, v ≠ .agg a) ∧ ∀ a, v ≠ .tuple a) →
    (storeCells ⟨b, o, none⟩ vs i).run P w = .ok () (World.upd w b (.cells (overA c (o + i) vs) e f)) := by
  intro vs
  induction vs with
  | nil =>
    intro i c w hX _ _ _
    have : World.upd w b (.cells c e f) = w := by
      unfold World.upd
      have hb : b < w.heap.size := by
        rcases Nat.lt_or_ge b w.heap.size with h | h
        · exact h
        · rw [Array.getElem?_eq_none h] at hX; cases hX
      have : w.heap.setIfInBounds b (.cells c e f) = w.heap := by
        apply Array.ext_getElem?
        intro i
        by_cases hi : i = b
        · subst hi; simp [hb]; simpa [Array.getElem?_eq_getElem hb] using hX.symm
        · exact Array.getElem?_setIfInBounds_ne (Ne.symm hi)
      rw [this]
    simp [storeCells, overA, this]
  | cons v t ih =>
    intro i c w hX hs hf hv
    simp only [List.length_cons] at hs hf
    obtain ⟨h1, h2⟩ := hv v (by simp)
    have hb : b < w.heap.size := by
      rcases Nat.lt_or_ge b w.heap.size with h | h
      · exact h
      · rw [Array.getElem?_eq_none h] at hX; cases hX
    have hst := run_store_cell (P := P) hX (show o + i < c.size by omega) (hf (o + i) (Nat.le_refl _) (by omega)) h1 h2
    have hX' : (World.upd w b (.cells (c.setIfInBounds (o + i) v) e f)).heap[b]? = some (.cells (c.setIfInBounds (o + i) v) e f) := by simp [World.upd, hb]
    have := ih (i + 1) (c.setIfInBounds (o + i) v) _ hX' (by simp; omega) (fun j hj hj' => hf j (by omega) (by omega)) (fun v hv' => hv v (by simp [hv']))
    rw [storeCells, add_addr]
    refine ok_bind (w₁ := World.upd w b (.cells (c.setIfInBounds (o + i) v) e f)) (a := ()) ?_ ?_
    · show (Sem.store .plain _ v (.pure ())).run P w = _
      rw [hst]; rfl
    · rw [this]
      congr 1
      unfold World.upd
      simp only [overA, World.mk.injEq, and_true]
      apply Array.ext_getElem?
      intro j
      by_cases hj : j = b
      · subst hj; simp [hb, Nat.add_assoc]
      · rw [Array.getElem?_setIfInBounds_ne (Ne.symm hj), Array.getElem?_setIfInBounds_ne (Ne.symm hj), Array.getElem?_setIfInBounds_ne (Ne.symm hj)]

end Go.AX

/- THE ENGINE: writing of blocks, elements of slices. -/
namespace Go.AX
set_option linter.unusedSimpArgs false
set_option linter.unusedVariables false

variable {P : Program} {φ : Phi} {h : Hp} {w : World}

theorem chunk_put_same (d : List AV) (cs : PT (List AV)) (i : Nat) (v : List AV) : chunk d (cs.put (some v) (K.of i)) i = v := by
  unfold chunk; rw [PT.get_put_same]

theorem chunk_put_ne (d : List AV) (cs : PT (List AV)) {i j : Nat} (hi : i ≤ 2 ^ 47) (hj : j ≤ 2 ^ 47) (hne : j ≠ i) (v : List AV) :
    chunk d (cs.put (some v) (K.of i)) j = chunk d cs j := by
  unfold chunk; rw [PT.get_put_ne _ (fun e => hne (K.of_inj hj hi e))]

theorem overA_append (a b : List Value) : ∀ (c : Array Value) (o : Nat), overA c o (a ++ b) = overA (overA c o a) (o + a.length) b := by
  induction a with
  | nil => intro c o; rfl
  | cons x t ih =>
    intro c o
    show overA (c.setIfInBounds o x) (o + 1) (t ++ b) = overA (overA (c.setIfInBounds o x) (o + 1) t) _ b
    rw [ih, List.length_cons, show o + (t.length + 1) = o + 1 + t.length by omega]

theorem CRel.end_le {n s : Nat} {d : List AV} {cs : PT (List AV)} {opn : Bool} {frz : Frz} {l : Loc} {c : Array Value} {f : Nat × Nat}
    (hc : CRel φ n s d cs opn frz l c f) : l.off + n * s ≤ c.size := by
  cases ho : opn with
  | false => obtain ⟨h0, h1⟩ := hc.shut ho; omega
  | true => obtain ⟨_, h1, h2, _⟩ := hc.wide ho; omega

theorem mul_lt_of {i n s r : Nat} (hi : i < n) (hr : r ≤ s) : i * s + r ≤ n * s := by
  have : (i + 1) * s ≤ n * s := Nat.mul_le_mul_right s hi
  rw [Nat.add_mul] at this; omega

/-- A chunk of a block is laid over. -/
theorem CRel.over {n s : Nat} {d : List AV} {cs : PT (List AV)} {opn : Bool} {frz : Frz} {l : Loc} {c : Array Value} {f : Nat × Nat}
    (hc : CRel φ n s d cs opn frz l c f) {i r : Nat} (hi : i < n) {vs : List AV} {cvs : List Value} (hr : r + vs.length ≤ s) (hv : VRels φ vs cvs) (hk : ∀ v, v ∈ vs → isCell v = true) :
    CRel φ n s d (cs.put (some ((chunk d cs i).take r ++ vs ++ (chunk d cs i).drop (r + vs.length))) (K.of i)) opn frz l (overA c (l.off + (i * s + r)) cvs) f := by
  have hsm := hc.small
  have hle := hc.end_le
  have hlen := hc.len i hi
  have hin := mul_lt_of (s := s) hi (Nat.le_refl s)
  have hvl := hv.length
  refine ⟨hc.small, hc.spos, fun j hj => ?_, fun j hj k v hv' => ?_, fun j hj v hv' => ?_, by rw [overA_size]; exact hc.frozen, fun ho => by rw [overA_size]; exact hc.shut ho, fun ho => by rw [overA_size]; exact hc.wide ho⟩
  · by_cases e : j = i
    · subst e; rw [chunk_put_same]; simp only [List.length_append, List.length_take, List.length_drop, hlen]; omega
    · rw [chunk_put_ne d cs (by omega) (by omega) e]; exact hc.len j hj
  · rw [overA_get _ _ _ _ (by rw [← hvl]; omega)]
    by_cases e : j = i
    · subst e
      rw [chunk_put_same] at hv'
      by_cases h1 : k < r
      · rw [if_neg (by omega)]
        apply hc.cell j hj k v
        rw [List.append_assoc, List.getElem?_append_left (by rw [List.length_take]; omega), List.getElem?_take, if_pos h1] at hv'
        exact hv'
      · by_cases h2 : k < r + vs.length
        · rw [if_pos ⟨by omega, by omega⟩]
          rw [List.append_assoc, List.getElem?_append_right (by rw [List.length_take]; omega), List.length_take, hlen, show min r s = r by omega, List.getElem?_append_left (by omega)] at hv'
          obtain ⟨y, hy, hr'⟩ := hv.get hv'
          exact ⟨y, by rw [← hy]; congr 1; omega, hr'⟩
        · rw [if_neg (by omega)]
          apply hc.cell j hj k v
          rw [List.getElem?_append_right (by simp only [List.length_append, List.length_take, hlen]; omega), List.getElem?_drop] at hv'
          rw [← hv']; congr 1; simp only [List.length_append, List.length_take, hlen]; omega
    · rw [chunk_put_ne d cs (by omega) (by omega) e] at hv'
      have hk' : k < s := by
        rw [← hc.len j hj]
        rcases Nat.lt_or_ge k (chunk d cs j).length with h | h
        · exact h
        · rw [List.getElem?_eq_none h] at hv'; cases hv'
      have : ¬ (l.off + (i * s + r) ≤ l.off + (j * s + k) ∧ l.off + (j * s + k) < l.off + (i * s + r) + cvs.length) := by
        rcases Nat.lt_or_gt_of_ne e with h | h
        · have := mul_lt_of (s := s) h (Nat.le_refl s); omega
        · have := mul_lt_of (s := s) h (Nat.le_refl s); omega
      rw [if_neg this]
      exact hc.cell j hj k v hv'
  · by_cases e : j = i
    · subst e
      rw [chunk_put_same] at hv'
      simp only [List.mem_append] at hv'
      rcases hv' with (h | h) | h
      · exact hc.ok j hj v (List.mem_of_mem_take h)
      · exact hk v h
      · exact hc.ok j hj v (List.mem_of_mem_drop h)
    · rw [chunk_put_ne d cs (by omega) (by omega) e] at hv'
      exact hc.ok j hj v hv'

theorem fz_free {frz : Frz} {f : Nat × Nat} {size last : Nat} (h : fzOk frz f size last) (hy : frz ≠ .yes) {i : Nat} (hi : i < size) : ¬ (f.1 ≤ i ∧ i < f.2) := by
  cases frz with
  | no => rw [show f = (0, 0) from h]; simp
  | str => exact h i hi
  | yes => exact absurd rfl hy

theorem cells_are {vs : List AV} {cvs : List Value} (hv : VRels φ vs cvs) (hk : ∀ v, v ∈ vs → isCell v = true) : ∀ v ∈ cvs, (∀ a, v ≠ .agg a) ∧ ∀ a, v ≠ .tuple a := by
  induction vs generalizing cvs with
  | nil => cases hv; intro v h; cases h
  | cons x t ih => cases hv with
    | cons hx ht =>
      intro v hv
      rcases List.mem_cons.1 hv with rfl | h
      · exact one_of_isCell hx (hk x (by simp))
      · exact ih ht (fun y hy => hk y (by simp [hy])) v h

/-- What a store of values makes of a world. -/
def StoreOk (P : Program) (φ : Phi) (h : Hp) (w : World) (b o : Nat) (cvs : List Value) (h' : Hp) : Prop :=
  ∃ w', (storeCells ⟨b, o, none⟩ cvs).run P w = .ok () w' ∧ Rel φ h' w' ∧ Ext φ h w φ h' w'

theorem setR_ok (hr : Rel φ h w) {b : K} {o n : Nat} {vs : List AV} {cvs : List Value} {h' : Hp} (hs : setR h b o n vs = some h') (hn : vs.length = n) {l : Loc} (hl : φ b = some l)
    (hv : VRels φ vs cvs) (hk : ∀ v, v ∈ vs → isCell v = true) : StoreOk P φ h w l.blk (l.off + o) cvs h' := by
  unfold setR at hs
  split at hs
  · rename_i m s d cs e opn frz hb
    obtain ⟨c, f, hX, hc⟩ := Hp.get_cells hr hb hl
    have hspos := hc.spos
    have key : frz ≠ .yes → (bif Nat.blt (Nat.div o s) m && Nat.ble (Nat.add (Nat.mod o s) n) s then
        some (h.set b (.cells m s d (cs.put (some (bif Nat.beq n s then vs else overL (Nat.mod o s) vs (chunk d cs (Nat.div o s)))) (K.of (Nat.div o s))) e opn frz)) else none) = some h' →
        StoreOk P φ h w l.blk (l.off + o) cvs h' := by
      intro hy hs
      cases hcond : (Nat.blt (Nat.div o s) m && Nat.ble (Nat.add (Nat.mod o s) n) s) with
      | false => rw [hcond] at hs; cases hs
      | true =>
        rw [hcond] at hs
        simp only [Bool.and_eq_true] at hcond
        have hi : o / s < m := natblt.1 hcond.1
        have hle : o % s + n ≤ s := natble.1 hcond.2
        have ho : o = o / s * s + o % s := by have := Nat.div_add_mod o s; rw [Nat.mul_comm] at this; omega
        have hlen := hc.len _ hi
        have hend := hc.end_le
        have hin := mul_lt_of (s := s) hi (Nat.le_refl s)
        simp only [cond_true, Option.some.injEq] at hs
        have hnew := hc.over hi (r := o % s) (by rw [hn]; exact hle) hv hk
        have echunk : (bif Nat.beq n s then vs else overL (Nat.mod o s) vs (chunk d cs (Nat.div o s))) =
            (chunk d cs (o / s)).take (o % s) ++ vs ++ (chunk d cs (o / s)).drop (o % s + vs.length) := by
          cases hns : Nat.beq n s with
          | true =>
            have e := natbeq.1 hns
            have h0 : o % s = 0 := by omega
            simp only [cond_true, h0, List.take_zero, List.nil_append, Nat.zero_add]
            rw [List.drop_eq_nil_of_le (by rw [hlen, hn, e]; exact Nat.le_refl _)]; simp
          | false =>
            simp only [cond_false]
            exact overL_eq _ _ _ (by show o % s ≤ _; rw [show (chunk d cs (Nat.div o s)).length = s from hlen]; omega)
        rw [echunk] at hs
        have hst := run_storeCells (P := P) (o := l.off + o) cvs 0 c w hX (by rw [← hv.length, hn]; omega) (fun j h1 h2 => fz_free hc.frozen hy (by rw [← hv.length, hn] at h2; omega)) (cells_are hv hk)
        have eo : l.off + o + 0 = l.off + (o / s * s + o % s) := by omega
        rw [eo] at hst
        obtain ⟨r1, r2⟩ := hr.set hb hl (o' := .cells m s d (cs.put (some ((chunk d cs (o / s)).take (o % s) ++ vs ++ (chunk d cs (o / s)).drop (o % s + vs.length))) (K.of (o / s))) e opn frz)
          (X := .cells (overA c (l.off + (o / s * s + o % s)) cvs) e f) ⟨_, _, rfl, hnew⟩
        subst hs
        exact ⟨_, hst, r1, r2⟩
    cases frz with
    | yes => cases hs
    | no => exact key (by intro e; cases e) hs
    | str => exact key (by intro e; cases e) hs
  · cases hs

end Go.AX

/- THE ENGINE: elements of slices, new blocks. -/
namespace Go.AX
set_option linter.unusedSimpArgs false
set_option linter.unusedVariables false

variable {P : Program} {φ : Phi} {h : Hp} {w : World}

@[simp] theorem flatL_eq (l : List (List AV)) : flatL l = l.flatten := by
  induction l with
  | nil => rfl
  | cons a t ih => show appL a (flatL t) = _; rw [ih]; simp

theorem flatten_get {α : Type} {s : Nat} : ∀ (L : List (List α)), (∀ c, c ∈ L → c.length = s) → ∀ (i j : Nat), j < s → L.flatten[i * s + j]? = (L[i]?).bind (·[j]?) := by
  intro L
  induction L with
  | nil => intro _ i j _; simp
  | cons c t ih =>
    intro hL i j hj
    have hc := hL c (by simp)
    cases i with
    | zero =>
      rw [Nat.zero_mul, Nat.zero_add, List.flatten_cons, List.getElem?_append_left (by omega)]
      rfl
    | succ i =>
      rw [List.flatten_cons, List.getElem?_append_right (by rw [hc, Nat.add_mul]; omega), hc]
      rw [show (i + 1) * s + j - s = i * s + j by rw [Nat.add_mul]; omega, ih (fun c hc => hL c (by simp [hc])) i j hj]
      rfl

theorem flatten_length {α : Type} {s : Nat} : ∀ (L : List (List α)), (∀ c, c ∈ L → c.length = s) → L.flatten.length = L.length * s := by
  intro L
  induction L with
  | nil => intro _; simp
  | cons c t ih => intro hL; rw [List.flatten_cons, List.length_append, hL c (by simp), ih (fun c hc => hL c (by simp [hc])), List.length_cons, Nat.add_mul]; omega

theorem chunksFrom_succ (d : List AV) (cs : PT (List AV)) (m i : Nat) : chunksFrom d cs (m + 1) i = chunk d cs i :: chunksFrom d cs m (i + 1) := rfl
theorem cutL_succ (sz m : Nat) (l : List AV) : cutL sz (m + 1) l = l.take sz :: cutL sz m (l.drop sz) := by
  show takeL sz l :: cutL sz m (dropL sz l) = _; simp

theorem Cells.append {b o : Nat} {vs vs' : List AV} {cs cs' : List Value} (h1 : Cells φ w b o vs cs) (h2 : Cells φ w b (o + vs.length) vs' cs') : Cells φ w b o (vs ++ vs') (cs ++ cs') := by
  refine ⟨h1.1.append h2.1, fun j v hj => ?_⟩
  have hl := h1.1.length
  by_cases hlt : j < cs.length
  · rw [List.getElem?_append_left hlt] at hj; exact h1.2 j v hj
  · rw [List.getElem?_append_right (by omega)] at hj
    have := h2.2 _ v hj
    rw [← this]; congr 2; omega

/-- What elements read out of a block are. -/
structure Elems (φ : Phi) (w : World) (b o sz m : Nat) (L : List (List AV)) (cs : List Value) : Prop where
  cells : Cells φ w b o L.flatten cs
  count : L.length = m
  width : ∀ c, c ∈ L → c.length = sz
  ok : ∀ v, v ∈ L.flatten → isCell v = true

theorem getEs_ok (hr : Rel φ h w) {b : K} {o sz m : Nat} {L : List (List AV)} (hg : getEs h b o sz m = some L) {l : Loc} (hl : φ b = some l) :
    ∃ cs, Elems φ w l.blk (l.off + o) sz m L cs := by
  unfold getEs at hg
  split at hg
  · rename_i n s d ct e opn frz hb
    obtain ⟨c, f, hX, hc⟩ := Hp.get_cells hr hb hl
    have hspos := hc.spos
    cases hsz : Nat.beq sz s with
    | true =>
      have e := natbeq.1 hsz
      subst e
      rw [hsz] at hg
      simp only [cond_true] at hg
      cases hcond : (Nat.beq (Nat.mod o sz) 0 && Nat.ble (Nat.add (Nat.div o sz) m) n) with
      | false => rw [hcond] at hg; cases hg
      | true =>
        rw [hcond] at hg
        simp only [Bool.and_eq_true] at hcond
        have h0 : o % sz = 0 := natbeq.1 hcond.1
        have hm : o / sz + m ≤ n := natble.1 hcond.2
        have ho : o = o / sz * sz := by have := Nat.div_add_mod o sz; rw [Nat.mul_comm] at this; omega
        simp only [cond_true, Option.some.injEq] at hg
        subst hg
        have key : ∀ (m i : Nat), i + m ≤ n → ∃ cs, Elems φ w l.blk (l.off + i * sz) sz m (chunksFrom d ct m i) cs := by
          intro m
          induction m with
          | zero => intro i _; exact ⟨[], ⟨.nil, fun j v hj => by simp at hj⟩, rfl, (fun c hc => nomatch hc), (fun v hv => nomatch hv)⟩
          | succ m ih =>
            intro i hi
            obtain ⟨cs, hcs⟩ := ih (i + 1) (by omega)
            obtain ⟨c1, hc1⟩ := Cells.of (φ := φ) (vs := chunk d ct i) (o := l.off + i * sz) hX (fun j v hj => by
              obtain ⟨cv, e1, r1⟩ := hc.cell i (by omega) j v hj
              exact ⟨cv, by rw [← e1]; congr 1; omega, r1⟩)
            have hlen := hc.len i (by omega)
            have ecell := hcs.cells
            rw [show l.off + (i + 1) * sz = l.off + i * sz + (chunk d ct i).length by rw [hlen, Nat.add_mul]; omega] at ecell
            refine ⟨c1 ++ cs, ?_, by rw [chunksFrom_succ, List.length_cons, hcs.count], fun c hc' => ?_, fun v hv => ?_⟩
            · rw [chunksFrom_succ, List.flatten_cons]; exact hc1.append ecell
            · rw [chunksFrom_succ] at hc'
              rcases List.mem_cons.1 hc' with rfl | h'
              · exact hlen
              · exact hcs.width c h'
            · rw [chunksFrom_succ, List.flatten_cons] at hv
              rcases List.mem_append.1 hv with h' | h'
              · exact hc.ok i (by omega) v h'
              · exact hcs.ok v h'
        obtain ⟨cs, hcs⟩ := key m (o / sz) hm
        rw [← ho] at hcs
        exact ⟨cs, hcs⟩
    | false =>
      rw [hsz] at hg
      simp only [cond_false] at hg
      cases hcond : (Nat.blt (Nat.div o s) n && Nat.ble (Nat.add (Nat.mod o s) (Nat.mul m sz)) s) with
      | false => rw [hcond] at hg; cases hg
      | true =>
        rw [hcond] at hg
        simp only [Bool.and_eq_true] at hcond
        have hi : o / s < n := natblt.1 hcond.1
        have hle : o % s + m * sz ≤ s := natble.1 hcond.2
        have ho : o = o / s * s + o % s := by have := Nat.div_add_mod o s; rw [Nat.mul_comm] at this; omega
        simp only [cond_true, Option.some.injEq, dropL_eq] at hg
        subst hg
        have hlen := hc.len _ hi
        have key : ∀ (m : Nat) (t : List AV), m * sz ≤ t.length → (cutL sz m t).flatten = t.take (m * sz) ∧ (cutL sz m t).length = m ∧ ∀ c, c ∈ cutL sz m t → c.length = sz := by
          intro m
          induction m with
          | zero => intro t _; exact ⟨by rw [Nat.zero_mul]; rfl, rfl, (fun c hc => nomatch hc)⟩
          | succ m ih =>
            intro t ht
            rw [Nat.add_mul] at ht
            obtain ⟨e1, e2, e3⟩ := ih (t.drop sz) (by rw [List.length_drop]; omega)
            refine ⟨?_, by rw [cutL_succ, List.length_cons, e2], fun c hc' => ?_⟩
            · rw [cutL_succ, List.flatten_cons, e1, Nat.add_mul, Nat.one_mul, Nat.add_comm, List.take_add]
            · rw [cutL_succ] at hc'
              rcases List.mem_cons.1 hc' with rfl | h'
              · rw [List.length_take]; omega
              · exact e3 c h'
        obtain ⟨e1, e2, e3⟩ := key m ((chunk d ct (Nat.div o s)).drop (Nat.mod o s)) (by
          rw [List.length_drop, show (chunk d ct (Nat.div o s)).length = s from hlen]; show _ ≤ s - o % s; omega)
        obtain ⟨ccs, hcc⟩ := Cells.of (φ := φ) (vs := (cutL sz m ((chunk d ct (Nat.div o s)).drop (Nat.mod o s))).flatten) (o := l.off + o) hX (fun j v hj => by
          rw [e1] at hj
          have hj' : (chunk d ct (o / s))[o % s + j]? = some v := by
            rw [List.getElem?_take] at hj
            split at hj
            · rw [List.getElem?_drop] at hj; exact hj
            · cases hj
          obtain ⟨cv, e1, r1⟩ := hc.cell _ hi _ v hj'
          refine ⟨cv, ?_, r1⟩
          rw [← e1]; congr 1; show l.off + o + j = l.off + (o / s * s + (o % s + j)); omega)
        exact ⟨ccs, hcc, e2, e3, fun v hv => by rw [e1] at hv; exact hc.ok _ hi v (List.mem_of_mem_drop (List.mem_of_mem_take hv))⟩
  · cases hg

theorem putEs_cons (cs : PT (List AV)) (c : List AV) (t : List (List AV)) (i : Nat) : putEs cs (c :: t) i = (putEs cs t (i + 1)).put (some c) (K.of i) := rfl

theorem putEs_get (d : List AV) (cs : PT (List AV)) : ∀ (L : List (List AV)) (i j : Nat), i + L.length ≤ 2 ^ 47 → j ≤ 2 ^ 47 →
    chunk d (putEs cs L i) j = if i ≤ j ∧ j < i + L.length then L.getD (j - i) d else chunk d cs j := by
  intro L
  induction L with
  | nil => intro i j _ _; rw [if_neg (by simp only [List.length_nil]; omega)]; rfl
  | cons c t ih =>
    intro i j hi hj
    simp only [List.length_cons] at hi
    rw [putEs_cons]
    by_cases e : j = i
    · subst e
      rw [chunk_put_same, if_pos ⟨Nat.le_refl _, by simp only [List.length_cons]; omega⟩]
      simp
    · rw [chunk_put_ne _ _ (by omega) hj e, ih (i + 1) j (by omega) hj]
      by_cases h1 : i + 1 ≤ j ∧ j < i + 1 + t.length
      · rw [if_pos h1, if_pos ⟨by omega, by simp only [List.length_cons]; omega⟩]
        rw [show j - i = (j - (i + 1)) + 1 by omega]; simp
      · rw [if_neg h1, if_neg (by simp only [List.length_cons]; omega)]

theorem overA_swap (a b : List Value) (c : Array Value) (o : Nat) (h : o + (a.length + b.length) ≤ c.size) : overA (overA c (o + a.length) b) o a = overA c o (a ++ b) := by
  apply Array.ext_getElem?
  intro i
  rw [overA_get _ _ _ _ (by rw [overA_size]; omega), overA_get _ _ _ _ (by omega), overA_get _ _ _ _ (by rw [List.length_append]; omega)]
  by_cases h1 : o ≤ i ∧ i < o + a.length
  · rw [if_pos h1, if_pos (by rw [List.length_append]; omega), List.getElem?_append_left (by omega)]
  · rw [if_neg h1]
    by_cases h2 : o + a.length ≤ i ∧ i < o + a.length + b.length
    · rw [if_pos h2, if_pos (by rw [List.length_append]; omega), List.getElem?_append_right (by omega)]; congr 1; omega
    · rw [if_neg h2, if_neg (by rw [List.length_append]; omega)]

theorem VRels.split {a b : List AV} {c : List Value} (hv : VRels φ (a ++ b) c) : ∃ c1 c2, c = c1 ++ c2 ∧ VRels φ a c1 ∧ VRels φ b c2 := by
  induction a generalizing c with
  | nil => exact ⟨[], c, rfl, .nil, hv⟩
  | cons x t ih => cases hv with
    | cons hx ht =>
      obtain ⟨c1, c2, rfl, h1, h2⟩ := ih ht
      exact ⟨_ :: c1, c2, rfl, .cons hx h1, h2⟩

theorem CRel.overs {n s : Nat} {d : List AV} {opn : Bool} {frz : Frz} {l : Loc} {f : Nat × Nat} : ∀ (L : List (List AV)) (i : Nat) (cs : PT (List AV)) (c : Array Value) (cvs : List Value),
    CRel φ n s d cs opn frz l c f → i + L.length ≤ n → (∀ x, x ∈ L → x.length = s) → VRels φ L.flatten cvs → (∀ v, v ∈ L.flatten → isCell v = true) →
    CRel φ n s d (putEs cs L i) opn frz l (overA c (l.off + i * s) cvs) f := by
  intro L
  induction L with
  | nil => intro i cs c cvs hc _ _ hv _; cases hv; exact hc
  | cons x t ih =>
    intro i cs c cvs hc hi hw hv hk
    simp only [List.length_cons] at hi
    rw [List.flatten_cons] at hv hk
    obtain ⟨c1, c2, rfl, h1, h2⟩ := hv.split
    have hx := hw x (by simp)
    have ht := ih (i + 1) cs c c2 hc (by omega) (fun y hy => hw y (by simp [hy])) h2 (fun v hv => hk v (by simp [hv]))
    have hin := mul_lt_of (s := s) (show i < n by omega) (Nat.le_refl s)
    have hend := hc.end_le
    have hlen := ht.len i (by omega)
    have ho := ht.over (show i < n by omega) (r := 0) (vs := x) (by omega) h1 (fun v hv => hk v (by simp [hv]))
    rw [putEs_cons]
    have e1 : (chunk d (putEs cs t (i + 1)) i).take 0 ++ x ++ (chunk d (putEs cs t (i + 1)) i).drop (0 + x.length) = x := by
      rw [List.drop_eq_nil_of_le (by omega)]; simp
    rw [e1] at ho
    have l1 := h1.length
    have l2 := h2.length
    have hfl := flatten_length t (fun y hy => hw y (by simp [hy]))
    have hin2 : (i + 1 + t.length) * s ≤ n * s := Nat.mul_le_mul_right s (by omega)
    rw [Nat.add_mul, Nat.add_mul, Nat.one_mul] at hin2
    have e2 := overA_swap c1 c2 c (l.off + i * s) (by rw [← l1, ← l2, hx, hfl]; omega)
    rw [← l1, hx] at e2
    rw [show i * s + 0 = i * s from rfl, show l.off + (i + 1) * s = l.off + i * s + s by rw [Nat.add_mul]; omega, e2] at ho
    exact ho

theorem setEs_ok (hr : Rel φ h w) {b : K} {o sz m : Nat} {L : List (List AV)} {h' : Hp} (hs : setEs h b o sz m L = some h') {l : Loc} (hl : φ b = some l) {cvs : List Value}
    (hm : L.length = m) (hw : ∀ x, x ∈ L → x.length = sz) (hv : VRels φ L.flatten cvs) (hk : ∀ v, v ∈ L.flatten → isCell v = true) : StoreOk P φ h w l.blk (l.off + o) cvs h' := by
  unfold setEs at hs
  split at hs
  · rename_i n s d cs e opn frz hb
    obtain ⟨c, f, hX, hc⟩ := Hp.get_cells hr hb hl
    have hspos := hc.spos
    have hend := hc.end_le
    have hfl := flatten_length L hw
    have hcl := hv.length
    have key : frz ≠ .yes → (bif Nat.beq m 0 then some h else
        bif Nat.beq sz s then
          bif Nat.beq (Nat.mod o s) 0 && Nat.ble (Nat.add (Nat.div o s) m) n then some (h.set b (.cells n s d (putEs cs L (Nat.div o s)) e opn frz)) else none
        else
          bif Nat.blt (Nat.div o s) n && Nat.ble (Nat.add (Nat.mod o s) (Nat.mul m sz)) s then
            some (h.set b (.cells n s d (cs.put (some (overL (Nat.mod o s) (flatL L) (chunk d cs (Nat.div o s)))) (K.of (Nat.div o s))) e opn frz)) else none) = some h' →
        StoreOk P φ h w l.blk (l.off + o) cvs h' := by
      intro hy hs
      cases h0 : Nat.beq m 0 with
      | true =>
        rw [h0] at hs
        simp only [cond_true, Option.some.injEq] at hs
        subst hs
        have e := natbeq.1 h0
        have : cvs = [] := List.length_eq_zero_iff.1 (by rw [← hcl, hfl, hm, e, Nat.zero_mul])
        subst this
        exact ⟨w, by simp [storeCells], hr, Ext.refl _ _ _⟩
      | false =>
        rw [h0] at hs
        simp only [cond_false] at hs
        cases hsz : Nat.beq sz s with
        | true =>
          have e := natbeq.1 hsz
          subst e
          rw [hsz] at hs
          simp only [cond_true] at hs
          cases hcond : (Nat.beq (Nat.mod o sz) 0 && Nat.ble (Nat.add (Nat.div o sz) m) n) with
          | false => rw [hcond] at hs; cases hs
          | true =>
            rw [hcond] at hs
            simp only [Bool.and_eq_true] at hcond
            have h0' : o % sz = 0 := natbeq.1 hcond.1
            have hmn : o / sz + m ≤ n := natble.1 hcond.2
            have ho : o = o / sz * sz := by have := Nat.div_add_mod o sz; rw [Nat.mul_comm] at this; omega
            have hin : (o / sz + m) * sz ≤ n * sz := Nat.mul_le_mul_right sz hmn
            rw [Nat.add_mul] at hin
            simp only [cond_true, Option.some.injEq] at hs
            have hnew := CRel.overs L (o / sz) cs c cvs hc (by rw [hm]; exact hmn) hw hv hk
            rw [← ho] at hnew
            have hst := run_storeCells (P := P) (o := l.off + o) cvs 0 c w hX (by rw [← hcl, hfl, hm]; omega) (fun j h1 h2 => fz_free hc.frozen hy (by rw [← hcl, hfl, hm] at h2; omega)) (cells_are hv hk)
            rw [Nat.add_zero] at hst
            obtain ⟨r1, r2⟩ := hr.set hb hl (o' := .cells n sz d (putEs cs L (o / sz)) e opn frz) (X := .cells (overA c (l.off + o) cvs) e f) ⟨_, _, rfl, hnew⟩
            subst hs
            exact ⟨_, hst, r1, r2⟩
        | false =>
          rw [hsz] at hs
          simp only [cond_false] at hs
          cases hcond : (Nat.blt (Nat.div o s) n && Nat.ble (Nat.add (Nat.mod o s) (Nat.mul m sz)) s) with
          | false => rw [hcond] at hs; cases hs
          | true =>
            rw [hcond] at hs
            simp only [Bool.and_eq_true] at hcond
            have hi : o / s < n := natblt.1 hcond.1
            have hle : o % s + m * sz ≤ s := natble.1 hcond.2
            have ho : o = o / s * s + o % s := by have := Nat.div_add_mod o s; rw [Nat.mul_comm] at this; omega
            have hlen := hc.len _ hi
            have hin := mul_lt_of (s := s) hi (Nat.le_refl s)
            simp only [cond_true, Option.some.injEq, flatL_eq] at hs
            rw [overL_eq _ _ _ (by show o % s ≤ _; rw [show (chunk d cs (Nat.div o s)).length = s from hlen]; omega)] at hs
            have hnew := hc.over hi (r := o % s) (vs := L.flatten) (by rw [hfl, hm]; exact hle) hv hk
            have hst := run_storeCells (P := P) (o := l.off + o) cvs 0 c w hX (by rw [← hcl, hfl, hm]; omega) (fun j h1 h2 => fz_free hc.frozen hy (by rw [← hcl, hfl, hm] at h2; omega)) (cells_are hv hk)
            have eo : l.off + o + 0 = l.off + (o / s * s + o % s) := by omega
            rw [eo] at hst
            obtain ⟨r1, r2⟩ := hr.set hb hl (o' := .cells n s d (cs.put (some ((chunk d cs (o / s)).take (o % s) ++ L.flatten ++ (chunk d cs (o / s)).drop (o % s + L.flatten.length))) (K.of (o / s))) e opn frz)
              (X := .cells (overA c (l.off + (o / s * s + o % s)) cvs) e f) ⟨_, _, rfl, hnew⟩
            subst hs
            exact ⟨_, hst, r1, r2⟩
    cases frz with
    | yes => cases hs
    | no => exact key (by intro e; cases e) hs
    | str => exact key (by intro e; cases e) hs
  · cases hs

/-- A new row of elements, with what else the world's block holds. -/
theorem CRel.fresh {s : Nat} {L : List (List AV)} {cvs : List Value} (rest : List Value) (hs : 0 < s) (hL : L.length ≤ 1048576) (hw : ∀ x, x ∈ L → x.length = s) (hv : VRels φ L.flatten cvs)
    (hk : ∀ v, v ∈ L.flatten → isCell v = true) {opn : Bool} {frz : Frz} {l : Loc} (h0 : l.off = 0) {f : Nat × Nat} (hf : fzOk frz f (cvs ++ rest).length (L.length * s)) (hshut : opn = false → rest = [])
    (hwide : opn = true → l.sz = s ∧ L.length * s ≤ l.tot ∧ l.tot = (cvs ++ rest).length ∧ s ∣ l.tot) :
    CRel φ L.length s [] (putEs .leaf L 0) opn frz l (cvs ++ rest).toArray f := by
  have hfl := flatten_length L hw
  have hcl := hv.length
  have hget : ∀ i, i < L.length → chunk [] (putEs .leaf L 0) i = L.getD i [] := by
    intro i hi
    rw [putEs_get _ _ _ _ _ (by omega) (by omega), if_pos ⟨Nat.zero_le _, by omega⟩]; rfl
  have hmem : ∀ i, i < L.length → L.getD i [] ∈ L := by
    intro i hi
    rw [List.getD_eq_getElem?_getD, List.getElem?_eq_getElem hi]; exact List.getElem_mem hi
  refine ⟨hL, hs, fun i hi => ?_, fun i hi j v hv' => ?_, fun i hi v hv' => ?_, by rw [h0, Nat.zero_add]; simpa using hf, fun ho => ⟨h0, ?_⟩, fun ho => ?_⟩
  · rw [hget i hi]; exact hw _ (hmem i hi)
  · rw [hget i hi] at hv'
    have hj : j < s := by
      rw [← hw _ (hmem i hi)]
      rcases Nat.lt_or_ge j (L.getD i []).length with h | h
      · exact h
      · rw [List.getElem?_eq_none h] at hv'; cases hv'
    have hin := mul_lt_of (s := s) hi (Nat.le_refl s)
    have hfg : L.flatten[i * s + j]? = some v := by
      rw [flatten_get L hw i j hj, List.getElem?_eq_getElem hi]
      rw [List.getD_eq_getElem?_getD, List.getElem?_eq_getElem hi] at hv'
      exact hv'
    obtain ⟨y, hy, hr⟩ := hv.get hfg
    refine ⟨y, ?_, hr⟩
    rw [h0, Nat.zero_add, List.getElem?_toArray, List.getElem?_append_left (by rw [← hcl, hfl]; omega)]
    exact hy
  · rw [hget i hi] at hv'
    exact hk v (List.mem_flatten.2 ⟨_, hmem i hi, hv'⟩)
  · rw [hshut ho]; simp; rw [← hcl, hfl]
  · obtain ⟨a, b, c, d⟩ := hwide ho
    exact ⟨a, b, by rw [h0, Nat.zero_add, c]; simp, d⟩

end Go.AX

/- THE ENGINE: operations, the first part: numbers, strings, aggregates, memory. -/
namespace Go.AX
set_option linter.unusedSimpArgs false
set_option linter.unusedVariables false

variable {P : Program}

def VOk (P : Program) (s : Sem Value) (φ : Phi) (h : Hp) (w : World) (v : AV) (h' : Hp) : Prop :=
  ∃ cv w' φ', s.run P w = .ok cv w' ∧ Rel φ' h' w' ∧ Ext φ h w φ' h' w' ∧ VRel φ' v cv

def POk (P : Program) (s : Sem Value) (φ : Phi) (w : World) (v : AV) : Prop := ∃ cv, s.run P w = .ok cv w ∧ VRel φ v cv

def UOk (P : Program) (s : Sem Unit) (φ : Phi) (h : Hp) (w : World) (h' : Hp) : Prop :=
  ∃ w' φ', s.run P w = .ok () w' ∧ Rel φ' h' w' ∧ Ext φ h w φ' h' w'

theorem POk.vok {s : Sem Value} {φ : Phi} {h : Hp} {w : World} {v : AV} (hp : POk P s φ w v) (hr : Rel φ h w) : VOk P s φ h w v h :=
  let ⟨cv, e, r⟩ := hp; ⟨cv, w, φ, e, hr, Ext.refl _ _ _, r⟩

/-! What compiled operations do -/
section inv
variable {tm : PT AV} {h : Hp} {p : ANext × Hp}

theorem oV_inv {x : Option AV} (e : oV h x = some p) : ∃ v, x = some v ∧ p = (.value v, h) := by
  cases x with
  | none => cases e
  | some v => cases e; exact ⟨v, rfl, rfl⟩
theorem oVH_inv {x : Option (AV × Hp)} (e : oVH x = some p) : ∃ v h', x = some (v, h') ∧ p = (.value v, h') := by
  cases x with
  | none => cases e
  | some v => cases e; exact ⟨v.1, v.2, rfl, rfl⟩
theorem oH_inv {x : Option Hp} (e : oH x = some p) : ∃ h', x = some h' ∧ p = (.value .und, h') := by
  cases x with
  | none => cases e
  | some v => cases e; exact ⟨v, rfl, rfl⟩

theorem inv_v1 {f : AV → Option AV} {x : AO} (e : opV (.v1 f x) tm h = some p) : ∃ v, f (ev tm x) = some v ∧ p = (.value v, h) := oV_inv e
theorem inv_v2 {f : AV → AV → Option AV} {x y : AO} (e : opV (.v2 f x y) tm h = some p) : ∃ v, f (ev tm x) (ev tm y) = some v ∧ p = (.value v, h) := oV_inv e
theorem inv_h1 {f : AV → Hp → Option AV} {x : AO} (e : opV (.h1 f x) tm h = some p) : ∃ v, f (ev tm x) h = some v ∧ p = (.value v, h) := oV_inv e
theorem inv_h2 {f : AV → AV → Hp → Option AV} {x y : AO} (e : opV (.h2 f x y) tm h = some p) : ∃ v, f (ev tm x) (ev tm y) h = some v ∧ p = (.value v, h) := oV_inv e
theorem inv_e1 {f : AV → Hp → Option (AV × Hp)} {x : AO} (e : opV (.e1 f x) tm h = some p) : ∃ v h', f (ev tm x) h = some (v, h') ∧ p = (.value v, h') := oVH_inv e
theorem inv_e2 {f : AV → AV → Hp → Option (AV × Hp)} {x y : AO} (e : opV (.e2 f x y) tm h = some p) : ∃ v h', f (ev tm x) (ev tm y) h = some (v, h') ∧ p = (.value v, h') := oVH_inv e
theorem inv_s2 {f : AV → AV → Hp → Option Hp} {x y : AO} (e : opV (.s2 f x y) tm h = some p) : ∃ h', f (ev tm x) (ev tm y) h = some h' ∧ p = (.value .und, h') := oH_inv e
theorem inv_s3 {f : AV → AV → AV → Hp → Option Hp} {x y z : AO} (e : opV (.s3 f x y z) tm h = some p) : ∃ h', f (ev tm x) (ev tm y) (ev tm z) h = some h' ∧ p = (.value .und, h') := oH_inv e
theorem inv_bad (e : opV .bad tm h = some p) : False := nomatch e

theorem inv_mkI0 {x : Option AO} {f : AO → OpF} (e : opV (mkI0 x f) tm h = some p) : ∃ a, x = some a ∧ opV (f a) tm h = some p := by
  cases x with
  | none => exact (inv_bad e).elim
  | some a => exact ⟨a, rfl, e⟩
theorem inv_mk2 {x y : Option AO} {f : AO → AO → OpF} (e : opV (mk2 x y f) tm h = some p) : ∃ a b, x = some a ∧ y = some b ∧ opV (f a b) tm h = some p := by
  cases x with
  | none => exact (inv_bad e).elim
  | some a => cases y with
    | none => exact (inv_bad e).elim
    | some b => exact ⟨a, b, rfl, rfl, e⟩
theorem inv_mk3 {x y z : Option AO} {f : AO → AO → AO → OpF} (e : opV (mk3 x y z f) tm h = some p) : ∃ a b c, x = some a ∧ y = some b ∧ z = some c ∧ opV (f a b c) tm h = some p := by
  cases x with
  | none => exact (inv_bad e).elim
  | some a => cases y with
    | none => exact (inv_bad e).elim
    | some b => cases z with
      | none => exact (inv_bad e).elim
      | some c => exact ⟨a, b, c, rfl, rfl, rfl, e⟩
end inv

theorem bif_true {α : Type} {b : Bool} {x : α} {y : Option α} (e : (bif b then some x else none) = y) {z : α} (hz : y = some z) : b = true ∧ x = z := by
  subst hz; cases b with
  | true => exact ⟨rfl, by simpa using e⟩
  | false => cases e

theorem bif_some {α : Type} {b : Bool} {x : Option α} {z : α} (e : (bif b then x else none) = some z) : b = true ∧ x = some z := by
  cases b with
  | true => exact ⟨rfl, e⟩
  | false => cases e

theorem bif_none {α : Type} {b : Bool} {x : Option α} {z : α} (e : (bif b then none else x) = some z) : b = false ∧ x = some z := by
  cases b with
  | true => cases e
  | false => exact ⟨rfl, e⟩

/-! Integers -/
theorem wrap_of_range {k : IntKind} {n : Int} (h : k.min ≤ n ∧ n ≤ k.max) : k.wrap n = n := by
  obtain ⟨h1, h2⟩ := h
  cases k <;> simp [IntKind.wrap, IntKind.min, IntKind.max, IntKind.signed, IntKind.bits] at * <;> omega

theorem inR_range {k : IntKind} {n : Int} (h : inR k n = true) : k.min ≤ n ∧ n ≤ k.max := by
  cases n with
  | ofNat m =>
    have : m ≤ maxN k := natble.1 h
    cases k <;> simp [IntKind.min, IntKind.max, IntKind.signed, IntKind.bits, maxN] at * <;> omega
  | negSucc m =>
    have h' : (bif k.signed then Nat.ble m (maxN k) else false) = true := h
    cases hk : k.signed with
    | false => rw [hk] at h'; cases h'
    | true =>
      rw [hk] at h'
      have : m ≤ maxN k := natble.1 h'
      cases k <;> simp [IntKind.min, IntKind.max, IntKind.signed, IntKind.bits, maxN] at * <;> omega

@[simp] theorem wrapK_eq (k : IntKind) (n : Int) : wrapK k n = k.wrap n := by
  unfold wrapK
  cases h : inR k n with
  | false => rfl
  | true => exact (wrap_of_range (inR_range h)).symm

@[simp] theorem ieqB_eq (a b : Int) : ieqB a b = (a == b) := by
  unfold ieqB; rw [Bool.eq_iff_iff]; simp
@[simp] theorem iltB_eq (a b : Int) : iltB a b = decide (a < b) := rfl
@[simp] theorem ileB_eq (a b : Int) : ileB a b = decide (a ≤ b) := rfl

theorem natBits_eq (k : IntKind) (x : Int) : natBits k x = (BitVec.ofInt k.bits x).toNat := by
  rw [BitVec.toNat_ofInt]
  cases x with
  | ofNat m =>
    show m % 2 ^ k.bits = _
    have : ((2 : Nat) ^ k.bits : Nat) = ((2 ^ k.bits : Nat)) := rfl
    rw [show Int.ofNat m = (m : Int) from rfl, ← Int.natCast_emod]; rfl
  | negSucc m =>
    show 2 ^ k.bits - 1 - m % 2 ^ k.bits = _
    have hp : 0 < 2 ^ k.bits := Nat.pow_pos (by omega)
    rw [Int.negSucc_emod]
    · have := Nat.mod_lt m hp
      omega
    · exact_mod_cast hp

theorem VRel.int_inv {φ : Phi} {k : IntKind} {n : Int} {c : Value} (h : VRel φ (.int k n) c) : c = .int k n := by cases h; rfl
theorem VRel.bool_inv {φ : Phi} {b : Bool} {c : Value} (h : VRel φ (.bool b) c) : c = .bool b := by cases h; rfl
theorem VRel.str_inv {φ : Phi} {s : List Nat} {c : Value} (h : VRel φ (.str s) c) : ∃ bs : ByteArray, c = .string bs ∧ bs.data.toList.map (·.toNat) = s := by
  cases h with | str h => exact ⟨_, rfl, h⟩
theorem VRel.ptr_inv {φ : Phi} {b : K} {o : Nat} {c : Value} (h : VRel φ (.ptr b o) c) : ∃ l, φ b = some l ∧ c = .pointer (some ⟨l.blk, l.off + o, none⟩) := by
  cases h with | ptr h => exact ⟨_, h, rfl⟩

theorem VRel.ret_int {φ : Phi} {k : IntKind} {m n : Int} (h : m = n) : VRel φ (.int k m) (.int k n) := h ▸ .int k m
theorem VRel.ret_bool {φ : Phi} {a b : Bool} (h : a = b) : VRel φ (.bool a) (.bool b) := h ▸ .bool a

theorem int_ok {φ : Phi} {w : World} {t : TypeId} {op : BinOp} {k : IntKind} {x y : Int} {v : AV} (h : arithF op k x y = some v)
    (hop : op ≠ .shl ∧ op ≠ .shr) : POk P (binOp op t (.int k x) (.int k y)) φ w v := by
  cases op
  case add => cases h; exact ⟨.int k (k.wrap (x + y)), by simp [binOp, Op.intArith], .ret_int (wrapK_eq _ _)⟩
  case sub => cases h; exact ⟨.int k (k.wrap (x - y)), by simp [binOp, Op.intArith], .ret_int (wrapK_eq _ _)⟩
  case mul => cases h; exact ⟨.int k (k.wrap (x * y)), by simp [binOp, Op.intArith], .ret_int (wrapK_eq _ _)⟩
  case quo =>
    obtain ⟨h0, h⟩ := bif_none h
    have h0' : y ≠ 0 := by simpa using h0
    cases h; exact ⟨.int k (k.wrap (x.tdiv y)), by simp [binOp, Op.intDiv, h0'], .ret_int (wrapK_eq _ _)⟩
  case rem =>
    obtain ⟨h0, h⟩ := bif_none h
    have h0' : y ≠ 0 := by simpa using h0
    cases h; exact ⟨.int k (x.tmod y), by simp [binOp, Op.intDiv, h0'], .ret_int rfl⟩
  case and => cases h; exact ⟨.int k (k.wrap (BitVec.ofInt k.bits x &&& BitVec.ofInt k.bits y).toNat), by simp [binOp, Op.intBits], .ret_int (by rw [wrapK_eq, natBits_eq, natBits_eq, BitVec.toNat_and]; rfl)⟩
  case or => cases h; exact ⟨.int k (k.wrap (BitVec.ofInt k.bits x ||| BitVec.ofInt k.bits y).toNat), by simp [binOp, Op.intBits], .ret_int (by rw [wrapK_eq, natBits_eq, natBits_eq, BitVec.toNat_or]; rfl)⟩
  case xor => cases h; exact ⟨.int k (k.wrap (BitVec.ofInt k.bits x ^^^ BitVec.ofInt k.bits y).toNat), by simp [binOp, Op.intBits], .ret_int (by rw [wrapK_eq, natBits_eq, natBits_eq, BitVec.toNat_xor]; rfl)⟩
  case shl => exact absurd rfl hop.1
  case shr => exact absurd rfl hop.2
  case andNot => cases h
  case eql => cases h; exact ⟨.bool (x == y), by simp [binOp, Op.intCmp], .ret_bool (ieqB_eq _ _)⟩
  case neq => cases h; exact ⟨.bool (x != y), by simp [binOp, Op.intCmp], .ret_bool (by rw [ieqB_eq]; rfl)⟩
  case lss => cases h; exact ⟨.bool (decide (x < y)), by simp [binOp, Op.intCmp], .ret_bool rfl⟩
  case leq => cases h; exact ⟨.bool (decide (x ≤ y)), by simp [binOp, Op.intCmp], .ret_bool rfl⟩
  case gtr => cases h; exact ⟨.bool (decide (x > y)), by simp [binOp, Op.intCmp], .ret_bool rfl⟩
  case geq => cases h; exact ⟨.bool (decide (x ≥ y)), by simp [binOp, Op.intCmp], .ret_bool rfl⟩

theorem shift_ok {φ : Phi} {w : World} {t : TypeId} {op : BinOp} {k k' : IntKind} {x y : Int} {v : AV} (h : shiftV op k x y = some v) :
    POk P (binOp op t (.int k x) (.int k' y)) φ w v := by
  unfold shiftV at h
  obtain ⟨h0, h⟩ := bif_none h
  have h0' : ¬ y < 0 := by simpa using h0
  cases op
  case shl =>
    cases h
    refine ⟨.int k (k.wrap (x * 2 ^ (min y.toNat k.bits))), by simp [binOp, Op.shift, h0'], .ret_int ?_⟩
    rw [wrapK_eq]
    have : (Int.ofNat (Nat.pow 2 (Nat.min y.toNat k.bits))) = (2 : Int) ^ (min y.toNat k.bits) := by
      show ((2 ^ (min y.toNat k.bits) : Nat) : Int) = _
      simp
    rw [this]; rfl
  case shr =>
    cases h
    refine ⟨.int k (x.fdiv (2 ^ (min y.toNat k.bits))), by simp [binOp, Op.shift, h0'], .ret_int ?_⟩
    cases x with
    | ofNat m =>
      show Int.ofNat (m / 2 ^ (min y.toNat k.bits)) = _
      rw [Int.fdiv_eq_ediv_of_nonneg _ (Int.le_of_lt (Int.pow_pos (by decide)))]
      simp
    | negSucc m => rfl
  all_goals cases h

/-! Strings -/
theorem eqS_eq (a b : List Nat) : eqS a b = (a == b) := by
  induction a generalizing b with
  | nil => cases b <;> rfl
  | cons x t ih => cases b with
    | nil => rfl
    | cons y u =>
      show (bif Nat.beq x y then eqS t u else false) = _
      rw [ih]
      cases h : Nat.beq x y with
      | true => have := natbeq.1 h; subst this; simp
      | false =>
        have : x ≠ y := by rintro rfl; rw [natbeq.2 rfl] at h; cases h
        simp [this]

theorem ltS_eq (a b : List UInt8) : ltS (a.map (·.toNat)) (b.map (·.toNat)) = Op.bytesLess a b := by
  induction a generalizing b with
  | nil => cases b <;> rfl
  | cons x t ih => cases b with
    | nil => rfl
    | cons y u =>
      show (bif Nat.blt x.toNat y.toNat then true else bif Nat.beq x.toNat y.toNat then ltS (t.map (·.toNat)) (u.map (·.toNat)) else false) = (decide (x < y) || (x == y && Op.bytesLess t u))
      rw [ih]
      by_cases h1 : x < y
      · have : Nat.blt x.toNat y.toNat = true := natblt.2 h1
        simp [h1, this]
      · have : Nat.blt x.toNat y.toNat = false := by rw [← Bool.not_eq_true]; intro h; exact h1 (natblt.1 h)
        rw [this]
        by_cases h2 : x = y
        · subst h2; simp [h1, natbeq.2]
        · have : Nat.beq x.toNat y.toNat = false := by rw [← Bool.not_eq_true]; intro h; exact h2 (UInt8.toNat_inj.1 (natbeq.1 h))
          simp [h1, h2, this]

theorem map_toNat_inj {a b : List UInt8} : (a.map (·.toNat) = b.map (·.toNat)) ↔ a = b := by
  constructor
  · intro h
    induction a generalizing b with
    | nil => cases b with
      | nil => rfl
      | cons _ _ => cases h
    | cons x t ih => cases b with
      | nil => cases h
      | cons y u =>
        simp only [List.map_cons, List.cons.injEq] at h
        rw [UInt8.toNat_inj.1 h.1, ih h.2]
  · rintro rfl; rfl

theorem eqS_bytes (a b : ByteArray) : eqS (a.data.toList.map (·.toNat)) (b.data.toList.map (·.toNat)) = (a.toList == b.toList) := by
  rw [eqS_eq]
  have e1 : a.toList = a.data.toList := ByteArray.toList_eq _
  have e2 : b.toList = b.data.toList := ByteArray.toList_eq _
  rw [e1, e2, Bool.eq_iff_iff]
  simp [map_toNat_inj]

end Go.AX

/- THE ENGINE: operations, the second part: strings, comparisons, parts of values. -/
namespace Go.AX
set_option linter.unusedSimpArgs false
set_option linter.unusedVariables false

variable {P : Program} {φ : Phi} {h : Hp} {w : World}

theorem ltS_total (a b : List UInt8) : (!Op.bytesLess b a) = (Op.bytesLess a b || (a == b)) := by
  induction a generalizing b with
  | nil => cases b <;> rfl
  | cons x t ih => cases b with
    | nil => rfl
    | cons y u =>
      simp only [Op.bytesLess]
      have := ih u
      by_cases h1 : x < y
      · have h2 : ¬ y < x := by rw [UInt8.lt_iff_toNat_lt] at *; omega
        have h3 : (y == x) = false := by
          simp only [beq_eq_false_iff_ne, ne_eq]; rintro rfl; rw [UInt8.lt_iff_toNat_lt] at h1; omega
        simp [h1, h2, h3]
      · by_cases h2 : y < x
        · have h3 : (x == y) = false := by
            simp only [beq_eq_false_iff_ne, ne_eq]; rintro rfl; rw [UInt8.lt_iff_toNat_lt] at h2; omega
          have h4 : (x :: t == y :: u) = false := by simp only [List.cons_beq_cons, h3, Bool.false_and]
          simp [h1, h2, h3, h4]
        · have h3 : x = y := by
            rw [UInt8.lt_iff_toNat_lt] at h1 h2
            exact UInt8.toNat_inj.1 (by omega)
          subst h3
          simp only [h1, decide_false, beq_self_eq_true, Bool.true_and, Bool.false_or, List.cons_beq_cons]
          exact this

theorem strOp_ok {t : TypeId} {op : BinOp} {x y : List Nat} {a b : ByteArray} (ha : a.data.toList.map (·.toNat) = x) (hb : b.data.toList.map (·.toNat) = y) {v : AV}
    (hs : strOp op x y = some v) : POk P (binOp op t (.string a) (.string b)) φ w v := by
  subst ha; subst hb
  have e1 := ByteArray.toList_eq a
  have e2 := ByteArray.toList_eq b
  cases op
  case add =>
    obtain ⟨h0, hs⟩ := bif_some hs
    cases hs
    have h1 := natble.1 h0
    simp only [lenL_eq, List.length_map, Nat.add_eq] at h1
    refine ⟨.string (a ++ b), ?_, .str ?_⟩
    · have : ¬ (((a.size + b.size : Nat) : Int) > IntKind.i64.max) := by
        have ea : a.size = a.data.toList.length := rfl
        have eb : b.size = b.data.toList.length := rfl
        simp [IntKind.max, IntKind.signed, IntKind.bits]; omega
      simp only [binOp, Op.stringOp, this, if_false]; rfl
    · simp [ByteArray.data_append]
  case eql => cases hs; exact ⟨.bool (a.toList == b.toList), rfl, .ret_bool (eqS_bytes a b)⟩
  case neq => cases hs; exact ⟨.bool (!(a.toList == b.toList)), rfl, .ret_bool (by rw [eqS_bytes a b])⟩
  case lss => cases hs; exact ⟨.bool (Op.bytesLess a.toList b.toList), rfl, .ret_bool (by rw [e1, e2]; exact ltS_eq _ _)⟩
  case leq => cases hs; exact ⟨.bool (Op.bytesLess a.toList b.toList || a.toList == b.toList), rfl, .ret_bool (by rw [e1, e2, ← ltS_total, ltS_eq])⟩
  case gtr => cases hs; exact ⟨.bool (!(Op.bytesLess a.toList b.toList || a.toList == b.toList)), rfl, .ret_bool (by rw [e1, e2, ← ltS_total, ltS_eq]; simp)⟩
  case geq => cases hs; exact ⟨.bool (!Op.bytesLess a.toList b.toList), rfl, .ret_bool (by rw [e1, e2, ltS_eq])⟩
  all_goals cases hs

theorem un_ok {op : UnOp} {x v : AV} {cx : Value} (hx : VRel φ x cx) (hu : unV op x = some v) : POk P (Op.unary op cx) φ w v := by
  unfold unV at hu
  split at hu
  · cases hu; rw [hx.int_inv]
    rename_i k n
    refine ⟨.int k (k.wrap (0 - n)), by simp [Op.unary, Op.intArith], .ret_int ?_⟩
    rw [wrapK_eq]; congr 1; show -n = 0 - n; omega
  · cases hu; rw [hx.int_inv]
    rename_i k n
    exact ⟨.int k (k.wrap (BitVec.ofInt k.bits (if k.signed then -1 else k.max) ^^^ BitVec.ofInt k.bits n).toNat), by simp [Op.unary, Op.intBits],
      .ret_int (by rw [wrapK_eq, natBits_eq, natBits_eq, BitVec.toNat_xor]; rfl)⟩
  · cases hu; rw [hx.bool_inv]; rename_i b; exact ⟨.bool (!b), rfl, .bool _⟩
  · cases hu

theorem bytes_beq (a b : ByteArray) : (a.toList == b.toList) = (a == b) := by
  rw [ByteArray.toList_eq, ByteArray.toList_eq]
  obtain ⟨⟨a⟩⟩ := a
  obtain ⟨⟨b⟩⟩ := b
  rw [Bool.eq_iff_iff]
  have : ((⟨⟨a⟩⟩ : ByteArray) == ⟨⟨b⟩⟩) = ((⟨a⟩ : Array UInt8) == ⟨b⟩) := rfl
  rw [this]
  simp

/-! Comparisons -/
section eql
variable {T : Cx} (hT : TabOk P T.types)
include hT

omit hT in
theorem equal_at {t : TypeId} {x y : Value} {b : Bool} (he : (Op.equalIn (9999 + 1) t x y).run P w = .ok b w) : (Op.equal t x y).run P w = .ok b w := he

theorem eqE_ok {t : TypeId} {ek : EK} (hk : ekT T t = some ek) {x y : AV} {cx cy : Value} (hx : VRel φ x cx) (hy : VRel φ y cy) {b : Bool} (he : eqE ek x y = some b) (n : Nat) :
    (Op.equalIn (n + 1) t cx cy).run P w = .ok b w := by
  unfold ekT at hk
  replace hk := (bif_some hk).2
  unfold eqE at he
  split at he
  · rename_i a c
    split at hk <;> first | (cases hk; done) | skip
    rename_i hu
    cases he
    rw [hx.bool_inv, hy.bool_inv]
    exact ok_bind (run_und hT hu (by intro e; cases e) w) (by simp)
  · rename_i k a k' c
    split at hk <;> first | (cases hk; done) | skip
    rename_i hu
    obtain ⟨h0, he⟩ := bif_some he
    have h0' : k = k' := by simpa using h0
    cases he
    rw [hx.int_inv, hy.int_inv]
    exact ok_bind (run_und hT hu (by intro e; cases e) w) (by simp [h0'])
  · rename_i a c
    split at hk <;> first | (cases hk; done) | skip
    rename_i hu
    cases he
    obtain ⟨ba, rfl, ea⟩ := hx.str_inv
    obtain ⟨bb, rfl, eb⟩ := hy.str_inv
    refine ok_bind (run_und hT hu (by intro e; cases e) w) ?_
    have : eqS a c = (ba == bb) := by
      rw [← ea, ← eb, eqS_bytes]
      exact bytes_beq ba bb
    simp [this]
  · cases he

end eql

end Go.AX

/- THE ENGINE: operations, the third part: comparisons. -/
namespace Go.AX
set_option linter.unusedSimpArgs false
set_option linter.unusedVariables false

variable {P : Program} {φ : Phi} {h : Hp} {w : World}

section eql
variable {T : Cx} (hT : TabOk P T.types)
include hT

theorem ekT_info {t : TypeId} {ek : EK} (hk : ekT T t = some ek) : ∃ ti, tinf T t = some ti ∧ P.info? t = some ti.info ∧ P.cellsOf t = 1 ∧ isAggD (undT T t) = false := by
  unfold ekT at hk
  obtain ⟨h1, hk⟩ := bif_some hk
  have hs := natbeq.1 h1
  obtain ⟨ti, ht, hi, e⟩ := size_ok hT (t := t) (by omega)
  refine ⟨ti, ht, hi, by simp [Program.cellsOf, hi, e, hs], ?_⟩
  split at hk <;> first | (cases hk; done) | skip
  all_goals (rename_i hu; rw [hu]; rfl)

theorem run_part_ek {t : TypeId} {ek : EK} (hk : ekT T t = some ek) {cs : Array Value} {i : Nat} {v : Value} (hv : cs[i]? = some v) (w : World) : (part t cs i).run P w = .ok v w := by
  obtain ⟨ti, ht, _, _, ha⟩ := ekT_info hT hk
  unfold part
  refine ok_bind (run_isAgg hT ht w) ?_
  rw [ha]; simp [hv]

theorem eqItems_ok {e : TypeId} {ek : EK} (hk : ekT T e = some ek) (d : Nat) : ∀ (m i : Nat) (xs ys : List AV) (cx cy : List Value), VRels φ (xs.drop i) (cx.drop i) → VRels φ (ys.drop i) (cy.drop i) →
    xs.length = i + m → ys.length = i + m → ∀ {b : Bool}, eqEs ek (xs.drop i) (ys.drop i) = some b →
    (Op.eqItems (d + 1) e 1 cx.toArray cy.toArray (List.range' i m)).run P w = .ok b w := by
  intro m
  induction m with
  | zero =>
    intro i xs ys cx cy _ _ lx ly b he
    rw [List.drop_eq_nil_of_le (by omega), List.drop_eq_nil_of_le (by omega)] at he
    cases he
    simp [Op.eqItems, List.range']
  | succ m ih =>
    intro i xs ys cx cy hx hy lx ly b he
    have ex : xs.drop i = xs[i] :: xs.drop (i + 1) := List.drop_eq_getElem_cons (by omega)
    have ey : ys.drop i = ys[i] :: ys.drop (i + 1) := List.drop_eq_getElem_cons (by omega)
    have lcx := hx.length
    have lcy := hy.length
    simp only [List.length_drop] at lcx lcy
    have ecx : cx.drop i = cx[i] :: cx.drop (i + 1) := List.drop_eq_getElem_cons (by omega)
    have ecy : cy.drop i = cy[i] :: cy.drop (i + 1) := List.drop_eq_getElem_cons (by omega)
    rw [ex, ecx] at hx
    rw [ey, ecy] at hy
    rw [ex, ey] at he
    cases hx with | cons hx1 hx2 =>
    cases hy with | cons hy1 hy2 =>
    have he : (match eqE ek xs[i] ys[i] with
      | some true => eqEs ek (xs.drop (i + 1)) (ys.drop (i + 1))
      | some false => some false
      | none => none) = some b := he
    have p1 := run_part_ek hT hk (cs := cx.toArray) (i := i * 1) (v := cx[i]) (by simp [show i < cx.length by omega]) w
    have p2 := run_part_ek hT hk (cs := cy.toArray) (i := i * 1) (v := cy[i]) (by simp [show i < cy.length by omega]) w
    simp only [List.range', Op.eqItems]
    refine ok_bind p1 (ok_bind p2 ?_)
    split at he
    · rename_i h1
      refine ok_bind (eqE_ok hT hk hx1 hy1 h1 d) ?_
      simp only [Bool.not_true, Bool.false_eq_true, if_false]
      exact ih (i + 1) xs ys cx cy hx2 hy2 (by omega) (by omega) he
    · rename_i h1
      cases he
      refine ok_bind (eqE_ok hT hk hx1 hy1 h1 d) ?_
      simp
    · cases he

theorem eqArr_ok {t e : TypeId} {n : Nat} {ek : EK} (hu : undT T t = .array n e) (hk : ekT T e = some ek) {x y : AV} {cx cy : Value} (hx : VRel φ x cx) (hy : VRel φ y cy) {b : Bool}
    (he : eqArr n ek x y = some b) (d : Nat) : (Op.equalIn (d + 2) t cx cy).run P w = .ok b w := by
  unfold eqArr at he
  split at he
  · rename_i m a m' b'
    obtain ⟨h0, he⟩ := bif_some he
    simp only [Bool.and_eq_true] at h0
    have e1 := natbeq.1 h0.1
    have e2 := natbeq.1 h0.2
    obtain ⟨fa, rfl, la, lax, ra, _⟩ := hx.cells_size_agg
    obtain ⟨fb, rfl, lb, lbx, rb, _⟩ := hy.cells_size_agg
    obtain ⟨ti, _, hi, hc, _⟩ := ekT_info hT hk
    rw [run_equalIn_array w (d + 1) fa.toArray fb.toArray (und_ok hT hu (by intro e; cases e)) hi, hc, List.range_eq_range']
    exact eqItems_ok hT hk d n 0 a b' fa fb (by simpa using ra) (by simpa using rb) (by omega) (by omega) (by simpa using he)
  · cases he

omit hT in
theorem cmp_world (hr : Rel φ h w) {b : K} (hc : cmpOk h b = true) {l : Loc} (hl : φ b = some l) : ∃ c e, w.heap[l.blk]? = some (.cells c e (0, 0)) := by
  unfold cmpOk at hc
  split at hc
  · rename_i n s d cs e opn hb
    obtain ⟨c, f, hX, hcr⟩ := Hp.get_cells hr hb hl
    have : f = (0, 0) := hcr.frozen
    exact ⟨c, e, by rw [hX, this]⟩
  · cases hc

omit hT in
theorem cmp_live {b : K} (hc : cmpOk h b = true) : ∃ o, h.get b = some o := by
  unfold cmpOk at hc
  split at hc
  · rename_i hb; exact ⟨_, hb⟩
  · cases hc

omit hT in
theorem run_frozen_no {w : World} {b o : Nat} {c : Array Value} {e : TypeId} (hX : w.heap[b]? = some (.cells c e (0, 0))) : w.frozen? ⟨b, o, none⟩ = false := by
  simp [World.frozen?, hX]

omit hT in
theorem sameAddr_ok (hr : Rel φ h w) {b b' : K} {o o' : Nat} {l l' : Loc} (hl : φ b = some l) (hl' : φ b' = some l') {r : Bool}
    (he : (bif K.beq b b' then some (Nat.beq o o') else bif cmpOk h b && cmpOk h b' then some false else none) = some r) :
    (sameAddr ⟨l.blk, l.off + o, none⟩ ⟨l'.blk, l'.off + o', none⟩).run P w = .ok r w := by
  cases hb : K.beq b b' with
  | true =>
    have e := K.beq_eq hb
    subst e
    rw [hl] at hl'; cases hl'
    rw [hb] at he
    simp only [cond_true, Option.some.injEq] at he
    subst he
    unfold sameAddr
    simp only [beq_self_eq_true, if_true, Sem.run_bind, Sem.run_pure]
    by_cases h0 : o = o'
    · subst h0; simp [natbeq.2]
    · have : Nat.beq o o' = false := by rw [← Bool.not_eq_true]; intro h; exact h0 (natbeq.1 h)
      simp [this, h0]
  | false =>
    rw [hb] at he
    simp only [cond_false] at he
    obtain ⟨hc, he⟩ := bif_some he
    cases he
    simp only [Bool.and_eq_true] at hc
    obtain ⟨c1, e1, hX1⟩ := cmp_world hr hc.1 hl
    obtain ⟨c2, e2, hX2⟩ := cmp_world hr hc.2 hl'
    obtain ⟨o1, g1⟩ := cmp_live hc.1
    obtain ⟨o2, g2⟩ := cmp_live hc.2
    have hne : l.blk ≠ l'.blk := fun e => K.ne_of_beq hb (hr.inj b b' o1 o2 l l' g1 g2 hl hl' e)
    have f1 : ∀ i, w.frozen? ⟨l.blk, i, none⟩ = false := fun i => run_frozen_no hX1
    have f2 : ∀ i, w.frozen? ⟨l'.blk, i, none⟩ = false := fun i => run_frozen_no hX2
    have s1 : w.shape? l.blk = some (e1, c1.size) := by simp [World.shape?, hX1]
    have s2 : w.shape? l'.blk = some (e2, c2.size) := by simp [World.shape?, hX2]
    unfold sameAddr
    simp only [beq_iff_eq, hne, if_false, Sem.run_bind, Sem.run_pure, frozen, Sem.run, f1, f2, noView, viewAt, shape, s1, s2, mayBeOne, stringish, Result.andThen, Option.isSome_some, if_true,
      Bool.false_and, Bool.and_false, Bool.or_false, Bool.false_eq_true, pure, Option.isSome_none, Option.isSome]
end eql

end Go.AX

/- THE ENGINE: operations, the fourth part: comparisons as operations; lengths; parts. -/
namespace Go.AX
set_option linter.unusedSimpArgs false
set_option linter.unusedVariables false

variable {P : Program} {φ : Phi} {h : Hp} {w : World}

section eql
variable {T : Cx} (hT : TabOk P T.types)
include hT

def negB (op : BinOp) (b : Bool) : Bool := match op with | .neq => !b | _ => b

omit hT in
theorem eq_run {op : BinOp} (hop : op = .eql ∨ op = .neq) {t : TypeId} {x y : Operand} {cx cy : Value} {b : Bool} (hg : (eqGuard op t x y cx cy).run P w = .ok () w)
    (hb : ∀ _ : BinOp, binOp .eql t cx cy = (do pure (.bool (← Op.equal t cx cy))) ∧ binOp .neq t cx cy = (do pure (.bool (!(← Op.equal t cx cy)))))
    (he : (Op.equal t cx cy).run P w = .ok b w) : (do eqGuard op t x y cx cy; binOp op t cx cy).run P w = .ok (.bool (negB op b)) w := by
  refine ok_bind hg ?_
  rcases hop with rfl | rfl
  · rw [(hb .eql).1]; exact ok_bind he rfl
  · rw [(hb .eql).2]; exact ok_bind he rfl

omit hT in
theorem guard_plain {op : BinOp} (hop : op = .eql ∨ op = .neq) {t : TypeId} {x y : Operand} {cx cy : Value} (h1 : ¬ (cx = .nilIface ∧ cy = .nilIface)) (h2 : ∀ a b, ¬ (cx = .agg a ∧ cy = .agg b)) :
    (eqGuard op t x y cx cy).run P w = .ok () w := by
  rcases hop with rfl | rfl <;>
  · unfold eqGuard
    simp only [Bool.not_true, Bool.false_eq_true, if_false]
    split
    · exact absurd ⟨rfl, rfl⟩ h1
    · exact absurd ⟨rfl, rfl⟩ (h2 _ _)
    · rfl

theorem guard_arr {op : BinOp} (hop : op = .eql ∨ op = .neq) {t e : TypeId} {n : Nat} {ek : EK} (hu : undT T t = .array n e) (hk : ekT T e = some ek) {x y : Operand} {a b : Array Value} :
    (eqGuard op t x y (.agg a) (.agg b)).run P w = .ok () w := by
  have hg : P.eqGuardType P.depth t = false := by
    have hd : P.depth = (2 * (P.types.size + Made.depth)) + 2 := rfl
    rw [hd]
    unfold Program.eqGuardType
    rw [und_ok hT hu (by intro e; cases e)]
    show P.eqGuardType (2 * (P.types.size + Made.depth) + 1) e = false
    unfold Program.eqGuardType
    unfold ekT at hk
    replace hk := (bif_some hk).2
    split at hk <;> first | (cases hk; done) | skip
    all_goals (rename_i hu'; rw [und_ok hT hu' (by intro e; cases e)])
  rcases hop with rfl | rfl <;>
  · unfold eqGuard
    simp [hg]

theorem eqAt_ok {t : TypeId} {x y : Operand} {vx vy : AV} {cx cy : Value} (hr : Rel φ h w) (hx : VRel φ vx cx) (hy : VRel φ vy cy)
    (hcx : nilO x = true → ∃ v, x = .const v) (hcy : nilO y = true → ∃ v, y = .const v) {b : Bool}
    (he : eqAt h (ckOf T t x y) vx vy = some b) {op : BinOp} (hop : op = .eql ∨ op = .neq) : (do eqGuard op t x y cx cy; binOp op t cx cy).run P w = .ok (.bool (negB op b)) w := by
  unfold ckOf at he
  split at he
  · -- bool
    rename_i hu
    unfold eqAt at he
    simp only [] at he
    split at he
    · cases he
      rw [hx.bool_inv, hy.bool_inv]
      refine eq_run hop (guard_plain hop (by simp) (by simp)) (fun _ => ⟨rfl, rfl⟩) ?_
      exact equal_at (ok_bind (run_und hT hu (by intro e; cases e) w) (by simp))
    · cases he
  · -- pointer
    rename_i e hu
    cases hz : Nat.beq (sizeT T e) 0 with
    | true => rw [hz] at he; cases he
    | false =>
      rw [hz] at he
      have hsz : sizeT T e ≠ 0 := by intro e'; rw [e'] at hz; cases hz
      have hue := run_und hT hu (by intro e; cases e) w
      unfold eqAt at he
      simp only [cond_false] at he
      split at he
      · cases he; cases hx; cases hy
        exact eq_run hop (guard_plain hop (by simp) (by simp)) (fun _ => ⟨rfl, rfl⟩) (equal_at (ok_bind hue (by simp)))
      · cases he; cases hx; obtain ⟨l, _, rfl⟩ := hy.ptr_inv
        exact eq_run hop (guard_plain hop (by simp) (by simp)) (fun _ => ⟨rfl, rfl⟩) (equal_at (ok_bind hue (by simp)))
      · cases he; cases hy; obtain ⟨l, _, rfl⟩ := hx.ptr_inv
        exact eq_run hop (guard_plain hop (by simp) (by simp)) (fun _ => ⟨rfl, rfl⟩) (equal_at (ok_bind hue (by simp)))
      · obtain ⟨l, hl, rfl⟩ := hx.ptr_inv
        obtain ⟨l', hl', rfl⟩ := hy.ptr_inv
        refine eq_run hop (guard_plain hop (by simp) (by simp)) (fun _ => ⟨rfl, rfl⟩) (equal_at (ok_bind hue ?_))
        refine ok_bind (run_size hT hsz w) ?_
        simp only [ne_eq, hsz, not_false_eq_true, if_true]
        exact sameAddr_ok hr hl hl' he
      · cases he
  · -- slice
    rename_i e hu
    have hue := run_und hT hu (by intro e; cases e) w
    unfold eqAt at he
    simp only [] at he
    split at he <;> first | (cases he; done) | skip
    all_goals
      cases he
      cases hx <;> cases hy <;> exact eq_run hop (guard_plain hop (by simp) (by simp)) (fun _ => ⟨rfl, rfl⟩) (equal_at (ok_bind hue (by simp)))
  · -- map
    rename_i k e hu
    have hue := run_und hT hu (by intro e; cases e) w
    unfold eqAt at he
    simp only [] at he
    split at he <;> first | (cases he; done) | skip
    all_goals
      cases he
      cases hx <;> cases hy <;> exact eq_run hop (guard_plain hop (by simp) (by simp)) (fun _ => ⟨rfl, rfl⟩) (equal_at (ok_bind hue (by simp)))
  · -- func
    rename_i a b' c hu
    have hue := run_und hT hu (by intro e; cases e) w
    unfold eqAt at he
    simp only [] at he
    split at he <;> first | (cases he; done) | skip
    all_goals
      cases he
      cases hx <;> cases hy <;> exact eq_run hop (guard_plain hop (by simp) (by simp)) (fun _ => ⟨rfl, rfl⟩) (equal_at (ok_bind hue (by simp)))
  · -- interface
    rename_i ms hu
    have hue := run_und hT hu (by intro e; cases e) w
    cases hn : (nilO x || nilO y) with
    | false => rw [hn] at he; cases he
    | true =>
      rw [hn] at he
      have hconst : (∃ v, x = .const v) ∨ (∃ v, y = .const v) := by
        rcases Bool.or_eq_true_iff.1 hn with h | h
        · exact .inl (hcx h)
        · exact .inr (hcy h)
      unfold eqAt at he
      simp only [cond_true] at he
      split at he <;> first | (cases he; done) | skip
      · cases he; cases hx; cases hy
        refine eq_run hop ?_ (fun _ => ⟨rfl, rfl⟩) (equal_at (ok_bind hue (by simp)))
        rcases hop with rfl | rfl <;> unfold eqGuard <;> rcases hconst with ⟨v, rfl⟩ | ⟨v, rfl⟩ <;> simp
      all_goals
        cases he; cases hx; cases hy
        exact eq_run hop (guard_plain hop (by simp) (by simp)) (fun _ => ⟨rfl, rfl⟩) (equal_at (ok_bind hue (by simp)))
  · -- array
    rename_i n e hu
    split at he
    · rename_i ek hk
      unfold eqAt at he
      simp only [] at he
      have he' := he
      unfold eqArr at he
      split at he
      · rename_i m a m' b'
        obtain ⟨fa, rfl, _⟩ := hx.cells_size_agg
        obtain ⟨fb, rfl, _⟩ := hy.cells_size_agg
        exact eq_run hop (guard_arr hT hop hu hk) (fun _ => ⟨rfl, rfl⟩) (equal_at (eqArr_ok hT hu hk hx hy he' 9998))
      · cases he
    · unfold eqAt at he; cases he
  · unfold eqAt at he; cases he
end eql

theorem nilO_const {x : Operand} (h : nilO x = true) : ∃ v, x = .const v := by
  unfold nilO at h
  split at h
  · exact ⟨_, rfl⟩
  · cases h

end Go.AX

/- THE ENGINE: operations, the fifth part: slices of slices, fields, elements. -/
namespace Go.AX
set_option linter.unusedSimpArgs false
set_option linter.unusedVariables false

variable {P : Program} {φ : Phi} {h : Hp} {w : World}

inductive VRelO (φ : Phi) : Option AV → Option Value → Prop
  | none : VRelO φ none none
  | some {v : AV} {c : Value} (h : VRel φ v c) : VRelO φ (some v) (some c)

theorem bound_ok {v : AV} {c : Value} (hv : VRel φ v c) {d lim r : Nat} (hb : boundV (some v) d lim = some r) {lim' : Nat} (hl : lim ≤ lim') (code : BoundsCode) :
    (Instr.sliceBound c lim' code).run P w = .ok r w ∧ r ≤ lim := by
  simp only [boundV] at hb
  split at hb
  · rename_i k i
    obtain ⟨h1, hb⟩ := bif_some hb
    cases hb
    have hle := natble.1 h1
    rw [hv.int_inv]
    refine ⟨?_, hle⟩
    unfold Instr.sliceBound
    refine ok_bind (a := (k, Int.ofNat r)) (w₁ := w) rfl ?_
    have : (0 : Int) ≤ Int.ofNat r ∧ Int.ofNat r ≤ (lim' : Int) := ⟨Int.natCast_nonneg r, Int.ofNat_le.2 (by omega)⟩
    simp only [this, and_self, if_true]; rfl
  · cases hb

theorem bounds_ok {lo hi mx : Option AV} {clo chi cmx : Option Value} (hlo : VRelO φ lo clo) (hhi : VRelO φ hi chi) (hmx : VRelO φ mx cmx) {len cap l hh m : Nat} (hle : len ≤ cap)
    (hb : bounds lo hi mx len cap = some (l, hh, m)) (isS : Bool) {capC : Nat} (hcap' : cap ≤ capC) :
    (Instr.sliceBounds isS len capC clo chi cmx).run P w = .ok (l, hh, if mx.isNone then capC else m) w ∧ l ≤ hh ∧ hh ≤ m ∧ m ≤ cap := by
  unfold bounds at hb
  cases hmx with
  | none =>
    simp only [] at hb
    cases hB : boundV hi len cap with
    | none => rw [hB] at hb; cases hb
    | some h1 =>
      rw [hB] at hb
      simp only [] at hb
      cases hL : boundV lo 0 h1 with
      | none => rw [hL] at hb; cases hb
      | some l1 =>
        rw [hL] at hb
        cases hb
        cases hhi with
        | none =>
          cases hB
          cases hlo with
          | none => cases hL; exact ⟨by simp [Instr.sliceBounds], Nat.zero_le _, hle, Nat.le_refl _⟩
          | some hv =>
            have r2 := fun code => bound_ok (P := P) (w := w) hv hL (Nat.le_refl _) code
            exact ⟨by simp [Instr.sliceBounds, (r2 _).1], (r2 .sliceB).2, hle, Nat.le_refl _⟩
        | some hv1 =>
          have r1 := fun code => bound_ok (P := P) (w := w) hv1 hB hcap' code
          cases hlo with
          | none => cases hL; exact ⟨by simp [Instr.sliceBounds, (r1 _).1], Nat.zero_le _, (r1 .sliceB).2, Nat.le_refl _⟩
          | some hv =>
            have r2 := fun code => bound_ok (P := P) (w := w) hv hL (Nat.le_refl _) code
            exact ⟨by simp [Instr.sliceBounds, (r1 _).1, (r2 _).1], (r2 .sliceB).2, (r1 .sliceB).2, Nat.le_refl _⟩
  | some hvm =>
    rename_i vm cm
    simp only [] at hb
    cases hM : boundV (some vm) 0 cap with
    | none => rw [hM] at hb; cases hb
    | some m1 =>
      rw [hM] at hb
      simp only [] at hb
      cases hhi with
      | none => cases hb
      | some hv =>
        rename_i vh ch
        simp only [] at hb
        cases hB : boundV (some vh) 0 m1 with
        | none => rw [hB] at hb; cases hb
        | some h1 =>
          rw [hB] at hb
          simp only [] at hb
          cases hL : boundV lo 0 h1 with
          | none => rw [hL] at hb; cases hb
          | some l1 =>
            rw [hL] at hb
            cases hb
            have r0 := fun code => bound_ok (P := P) (w := w) hvm hM hcap' code
            have r1 := fun code => bound_ok (P := P) (w := w) hv hB (Nat.le_refl _) code
            cases hlo with
            | none => cases hL; exact ⟨by simp [Instr.sliceBounds, (r0 _).1, (r1 _).1], Nat.zero_le _, (r1 .sliceB).2, (r0 .sliceB).2⟩
            | some hv =>
              have r2 := fun code => bound_ok (P := P) (w := w) hv hL (Nat.le_refl _) code
              exact ⟨by simp [Instr.sliceBounds, (r0 _).1, (r1 _).1, (r2 _).1], (r2 .sliceB).2, (r1 .sliceB).2, (r0 .sliceB).2⟩

theorem cut_rel {b : K} {o sz l hh m : Nat} {lc : Loc} (hl : φ b = some lc) (h1 : l ≤ hh) (h2 : hh ≤ m) :
    VRel φ (.slc b (bif Nat.beq m l then o else Nat.add o (Nat.mul l sz)) (Nat.sub hh l) (Nat.sub m l))
      (.slice (some (if m = l then ⟨lc.blk, lc.off + o, none⟩ else (⟨lc.blk, lc.off + o, none⟩ : Addr).add (l * sz))) (hh - l) (m - l)) := by
  by_cases e : m = l
  · have : Nat.beq m l = true := natbeq.2 e
    rw [this, if_pos e]
    exact .slc hl (by show hh - l ≤ m - l; omega)
  · have : Nat.beq m l = false := by rw [← Bool.not_eq_true]; intro h; exact e (natbeq.1 h)
    rw [this, if_neg e, add_addr, Nat.add_assoc]
    exact .slc hl (by show hh - l ≤ m - l; omega)

theorem sk_pos {n : Nat} {k : SK} {x : AV} {lo hi mx : Option AV} {v : AV} (hs : sliceV (bif Nat.beq n 0 then .no else k) x lo hi mx = some v) : n ≠ 0 ∧ sliceV k x lo hi mx = some v := by
  cases h : Nat.beq n 0 with
  | true => rw [h] at hs; exact absurd hs (by unfold sliceV; simp)
  | false => rw [h] at hs; exact ⟨(fun e => by rw [natbeq.2 e] at h; cases h), hs⟩

theorem slice_ok {T : Cx} (hT : TabOk P T.types) {t : TypeId} {x v : AV} {cx : Value} {lo hi mx : Option AV} {clo chi cmx : Option Value} (hx : VRel φ x cx)
    (hlo : VRelO φ lo clo) (hhi : VRelO φ hi chi) (hmx : VRelO φ mx cmx) (hs : sliceV (skOf T t) x lo hi mx = some v) : POk P (Instr.sliceAt t cx clo chi cmx) φ w v := by
  unfold skOf at hs
  split at hs
  · -- string
    rename_i hu
    unfold sliceV at hs
    split at hs <;> first | (cases hs; done) | skip
    · rename_i s heq
      cases hmx with
      | some _ => cases hs
      | none =>
        simp only [] at hs
        cases hB : bounds lo hi none (lenL s) (lenL s) with
        | none => rw [hB] at hs; cases hs
        | some r =>
          obtain ⟨l, hh, m⟩ := r
          rw [hB] at hs
          cases hs
          obtain ⟨bs, rfl, hbs⟩ := hx.str_inv
          have hsz : lenL s = bs.size := by rw [lenL_eq, ← hbs, List.length_map]; rfl
          rw [hsz] at hB
          obtain ⟨hrun, h1, h2, h3⟩ := bounds_ok (P := P) (w := w) hlo hhi .none (Nat.le_refl _) hB false (Nat.le_refl _)
          refine ⟨.string (bs.extract l hh), ?_, .str ?_⟩
          · unfold Instr.sliceAt
            refine ok_bind (run_und hT hu (by intro e; cases e) w) ?_
            unfold Instr.slice
            refine ok_bind (run_und hT hu (by intro e; cases e) w) ?_
            simp only [Option.isSome_none, Bool.false_eq_true, if_false]
            refine ok_bind hrun rfl
          · rw [takeL_eq, dropL_eq, ← hbs]
            simp only [ByteArray.data_extract, Array.toList_extract, List.extract_eq_take_drop, List.map_take, List.map_drop]; rfl
    all_goals (rename_i heq; cases heq)
  · -- slice
    rename_i e hu
    obtain ⟨hpos, hs2⟩ := sk_pos hs
    clear hs; rename _ => hs
    unfold sliceV at hs
    have hue := run_und hT hu (by intro e; cases e) w
    have hsz := run_size hT hpos w
    split at hs <;> first | (cases hs; done) | skip
    · rename_i heq; cases heq
    · -- a slice with an open end
      rename_i sz b o len sz' heq
      cases heq
      obtain ⟨h0, hs2⟩ := bif_some hs
      clear hs; rename _ => hs
      have e0 := natbeq.1 h0
      clear h0
      subst e0
      cases hmx with
      | none =>
        simp only [] at hs
        cases hB : bounds lo hi none len len with
        | none => rw [hB] at hs; cases hs
        | some r =>
          obtain ⟨l, hh, m⟩ := r
          rw [hB] at hs
          cases hs
          cases hx with
          | opn hl hsz' ht hle =>
            rename_i c lc
            obtain ⟨hrun, h1, h2, h3⟩ := bounds_ok (P := P) (w := w) hlo hhi .none (Nat.le_refl _) hB true hle
            have run : ∀ a : Option Addr, a = (if c = l then some ⟨lc.blk, lc.off + o, none⟩ else some ⟨lc.blk, lc.off + o + l * sizeT T e, none⟩) →
                (Instr.sliceAt t (.slice (some ⟨lc.blk, lc.off + o, none⟩) len c) clo chi none).run P w = .ok (.slice a (hh - l) (c - l)) w := by
              rintro a rfl
              simp only [Instr.sliceAt, Instr.slice, Sem.run_bind, hue, Result.andThen, hrun, Option.isNone_none, if_true, hsz, Sem.run_pure, Option.map_some, add_addr]
            by_cases e1 : c = l
            · refine ⟨_, run _ rfl, ?_⟩
              rw [if_pos e1, show hh - l = 0 by omega, show c - l = 0 by omega]
              show VRel φ (.opn b _ (hh - l) _) _
              rw [show hh - l = 0 by omega]
              exact .opn0 hl hsz'
            · refine ⟨_, run _ rfl, ?_⟩
              rw [if_neg e1, Nat.add_assoc]
              refine .opn hl hsz' ?_ (by show hh - l ≤ c - l; omega)
              show o + l * sizeT T e + (c - l) * sizeT T e = lc.tot
              rw [Nat.add_assoc, ← Nat.add_mul, show l + (c - l) = c by omega]; exact ht
          | opn0 hl hsz' =>
            rename_i a lc
            obtain ⟨hrun, h1, h2, h3⟩ := bounds_ok (P := P) (w := w) hlo hhi .none (Nat.le_refl _) hB true (Nat.le_refl 0)
            obtain rfl : l = 0 := by omega
            obtain rfl : hh = 0 := by omega
            refine ⟨.slice (some ⟨lc.blk, a, none⟩) 0 0, ?_, .opn0 hl hsz'⟩
            simp only [Instr.sliceAt, Instr.slice, Sem.run_bind, hue, Result.andThen, hrun, Option.isNone_none, if_true, hsz, Sem.run_pure, Nat.sub_self]
      | some hvm =>
        simp only [] at hs
        obtain ⟨hn0, hs2⟩ := bif_none hs
        clear hs; rename _ => hs
        have hn0 : len ≠ 0 := fun e => by rw [natbeq.2 e] at hn0; cases hn0
        cases hB : bounds lo hi (some _) len len with
        | none => rw [hB] at hs; cases hs
        | some r =>
          obtain ⟨l, hh, m⟩ := r
          rw [hB] at hs
          cases hs
          cases hx with
          | opn hl hsz' ht hle =>
            rename_i c lc
            obtain ⟨hrun, h1, h2, h3⟩ := bounds_ok (P := P) (w := w) hlo hhi (.some hvm) (Nat.le_refl _) hB true hle
            refine ⟨_, ?_, cut_rel hl h1 h2⟩
            simp only [Instr.sliceAt, Instr.slice, Sem.run_bind, hue, Result.andThen, hrun, Option.isNone_some, Bool.false_eq_true, if_false, hsz, Sem.run_pure, Option.map_some]
            split <;> rfl
          | opn0 hl hsz' => exact absurd rfl hn0
    · -- a slice
      rename_i sz b o len cap heq
      cases heq
      cases hB : bounds lo hi mx len cap with
      | none => rw [hB] at hs; cases hs
      | some r =>
        obtain ⟨l, hh, m⟩ := r
        rw [hB] at hs
        cases hs
        cases hx with
        | slc hl hle =>
          rename_i lc
          obtain ⟨hrun, h1, h2, h3⟩ := bounds_ok (P := P) (w := w) hlo hhi hmx hle hB true (Nat.le_refl _)
          have hm : (if mx.isNone = true then cap else m) = m := by
            cases hmx with
            | none =>
              unfold bounds at hB
              simp only [] at hB
              split at hB <;> first | (cases hB; done) | skip
              split at hB <;> first | (cases hB; done) | skip
              cases hB; rfl
            | some _ => rfl
          rw [hm] at hrun
          refine ⟨_, ?_, cut_rel hl h1 h2⟩
          simp only [Instr.sliceAt, Instr.slice, Sem.run_bind, hue, Result.andThen, hrun, hsz, Sem.run_pure, Option.map_some]
          split <;> rfl
    · -- nil
      rename_i sz heq
      cases heq
      cases hB : bounds lo hi mx 0 0 with
      | none => rw [hB] at hs; cases hs
      | some r =>
        obtain ⟨l, hh, m⟩ := r
        rw [hB] at hs
        cases hs
        cases hx
        obtain ⟨hrun, h1, h2, h3⟩ := bounds_ok (P := P) (w := w) hlo hhi hmx (Nat.le_refl _) hB true (Nat.le_refl _)
        refine ⟨.slice none 0 0, ?_, .nils⟩
        have hm : (if mx.isNone = true then 0 else m) = 0 := by split <;> omega
        simp only [Instr.sliceAt, Instr.slice, Sem.run_bind, hue, Result.andThen, hrun, hsz, Sem.run_pure, Option.map_none, hm, show hh = 0 by omega, show l = 0 by omega]
        simp
    · rename_i heq; cases heq
  · -- the address of an array
    rename_i n e hu
    obtain ⟨hpos, hs2⟩ := sk_pos hs
    clear hs; rename _ => hs
    unfold sliceV at hs
    have hue := run_und hT hu (by intro e; cases e) w
    have hsz := run_size hT hpos w
    split at hs <;> first | (cases hs; done) | skip
    all_goals first | (rename_i heq; cases heq; done) | skip
    rename_i n' sz b o heq
    cases heq
    cases hB : bounds lo hi mx n n with
    | none => rw [hB] at hs; cases hs
    | some r =>
      obtain ⟨l, hh, m⟩ := r
      rw [hB] at hs
      cases hs
      obtain ⟨lc, hl, rfl⟩ := hx.ptr_inv
      obtain ⟨hrun, h1, h2, h3⟩ := bounds_ok (P := P) (w := w) hlo hhi hmx (Nat.le_refl _) hB false (Nat.le_refl _)
      have hm : (if mx.isNone = true then n else m) = m := by
        cases hmx with
        | none =>
          unfold bounds at hB
          simp only [] at hB
          split at hB <;> first | (cases hB; done) | skip
          split at hB <;> first | (cases hB; done) | skip
          cases hB; rfl
        | some _ => rfl
      rw [hm] at hrun
      refine ⟨_, ?_, cut_rel hl h1 h2⟩
      simp only [Instr.sliceAt, Instr.sureAddr, Sem.run_bind, hue, Result.andThen, hrun, hsz, Sem.run_pure]
  · unfold sliceV at hs; cases hs

end Go.AX

/- THE ENGINE: operations, the sixth part: addresses, fields, elements, variables. -/
namespace Go.AX
set_option linter.unusedSimpArgs false
set_option linter.unusedVariables false

variable {P : Program} {φ : Phi} {h : Hp} {w : World}

theorem known_ok {T : Cx} {t : TypeId} (h : known T t = true) : ∃ ti, tinf T t = some ti := by
  unfold known at h
  cases ht : tinf T t with
  | none => rw [ht] at h; cases h
  | some ti => exact ⟨ti, rfl⟩

theorem run_sureAddr {b o : Nat} {w : World} : (Instr.sureAddr (.pointer (some ⟨b, o, none⟩))).run P w = .ok ⟨b, o, none⟩ w := rfl

section
variable {T : Cx} (hT : TabOk P T.types)
include hT

theorem run_size_known {t : TypeId} {ti : TI} (ht : tinf T t = some ti) (w : World) : (sizeOf t).run P w = .ok (sizeT T t) w := by
  simp [sizeOf, typeInfo, (tinf_ok hT ht).1, sizeT, ht]

theorem part_ok {t : TypeId} (hk : known T t = true) {v : AV} {m : Nat} {a : List AV} {fa : List Value} (ha : VRels φ a fa) (hm : a.length = m) (hc : ∀ v, v ∈ a → isCell v = true)
    {off : Nat} (hx : (bif isAggD (undT T t) then (bif Nat.ble (Nat.add off (sizeT T t)) m then some (.agg (sizeT T t) (takeL (sizeT T t) (dropL off a))) else none) else nthL off a) = some v) :
    POk P (part t fa.toArray off) φ w v := by
  obtain ⟨ti, ht⟩ := known_ok hk
  have hagg := run_isAgg hT ht w
  have hsz := run_size_known hT ht w
  cases hA : isAggD (undT T t) with
  | true =>
    rw [hA] at hx hagg
    obtain ⟨hle, hx⟩ := bif_some hx
    have hle : off + sizeT T t ≤ m := natble.1 hle
    cases hx
    refine ⟨.agg (fa.toArray.extract off (off + sizeT T t)), by simp [part, hagg, hsz], ?_⟩
    rw [takeL_eq, dropL_eq]
    have : fa.toArray.extract off (off + sizeT T t) = ((fa.drop off).take (sizeT T t)).toArray := by
      simp [List.extract_eq_take_drop]
    rw [this]
    exact .agg (by rw [List.length_take, List.length_drop]; omega) (fun v hv => hc v (List.mem_of_mem_drop (List.mem_of_mem_take hv))) ((ha.drop off).take _)
  | false =>
    rw [hA] at hx hagg
    simp only [cond_false, nthL_eq] at hx
    obtain ⟨y, hy, hr⟩ := ha.get hx
    refine ⟨y, ?_, hr⟩
    have : fa.toArray[off]? = some y := by simpa using hy
    simp [part, hagg, this]

theorem field_ok {t : TypeId} {fs : Array Field} (hu : undT T t = .struct fs) {f : Nat} {fd : Field} (hf : fs[f]? = some fd) (hk : known T fd.type = true) {x v : AV} {cx : Value} (hx : VRel φ x cx)
    (hv : (bif isAggD (undT T fd.type) then fFlN fd.offset (sizeT T fd.type) x else fFl1 fd.offset x) = some v) : POk P (Instr.field t cx f) φ w v := by
  have hue := run_und hT hu (by intro e; cases e) w
  have key : ∀ m a, x = .agg m a → (bif isAggD (undT T fd.type) then (bif Nat.ble (Nat.add fd.offset (sizeT T fd.type)) m then some (.agg (sizeT T fd.type) (takeL (sizeT T fd.type) (dropL fd.offset a))) else none) else nthL fd.offset a) = some v →
      POk P (Instr.field t cx f) φ w v := by
    rintro m a rfl hv
    obtain ⟨fa, rfl, h1, h2, ha, hc⟩ := hx.cells_size_agg
    obtain ⟨cv, hrun, hr⟩ := part_ok (w := w) hT hk ha h2 hc hv
    exact ⟨cv, by simp [Instr.field, hue, hf, asAgg, hrun], hr⟩
  cases hA : isAggD (undT T fd.type) with
  | true =>
    rw [hA] at hv
    simp only [cond_true] at hv
    unfold fFlN at hv
    split at hv
    · exact key _ _ rfl (by rw [hA]; exact hv)
    · cases hv
  | false =>
    rw [hA] at hv
    simp only [cond_false] at hv
    unfold fFl1 at hv
    split at hv
    · exact key _ _ rfl (by rw [hA]; exact hv)
    · cases hv

theorem fieldAt_ok {t : TypeId} {fs : Array Field} (hu : undT T t = .struct fs) {f : Nat} {fd : Field} (hf : fs[f]? = some fd) (hs : sizeT T fd.type ≠ 0) {x v : AV} {cx : Value} (hx : VRel φ x cx)
    (hv : fFa fd.offset x = some v) : POk P (Instr.fieldAt t cx f) φ w v := by
  have hue := run_und hT hu (by intro e; cases e) w
  have hsz := run_size hT hs w
  unfold fFa at hv
  split at hv
  · cases hv
    obtain ⟨l, hl, rfl⟩ := hx.ptr_inv
    refine ⟨_, by simp [Instr.fieldAt, hue, hf, run_sureAddr, fieldPlace, hsz, hs, add_addr]; rfl, ?_⟩
    rw [Nat.add_assoc]
    exact .ptr hl
  · cases hv

omit hT in
theorem idx_ok {n k : Nat} {i : AV} {ci : Value} (hi : VRel φ i ci) (h : idx n i = some k) : ∃ kd, ci = .int kd (k : Int) ∧ k < n := by
  unfold idx at h
  split at h
  · obtain ⟨h1, h⟩ := bif_some h
    cases h
    exact ⟨_, hi.int_inv, natblt.1 h1⟩
  · cases h

theorem indexAt_ok {t : TypeId} {x i v : AV} {cx ci : Value} (hx : VRel φ x cx) (hi : VRel φ i ci)
    (hv : (match undT T t with
      | .array n e => bif Nat.beq (sizeT T e) 0 then none else fIaA n (sizeT T e) x i
      | .slice e => bif Nat.beq (sizeT T e) 0 then none else fIaS (sizeT T e) x i
      | _ => none) = some v) : POk P (Instr.indexAt t cx ci) φ w v := by
  split at hv
  · rename_i n e hu
    obtain ⟨h0, hv⟩ := bif_none hv
    have hs : sizeT T e ≠ 0 := fun e => by rw [natbeq.2 e] at h0; cases h0
    have hue := run_und hT hu (by intro e; cases e) w
    have hsz := run_size hT hs w
    unfold fIaA at hv
    split at hv
    · split at hv
      · rename_i k hk
        cases hv
        obtain ⟨kd, rfl, hlt⟩ := idx_ok hi hk
        obtain ⟨l, hl, rfl⟩ := hx.ptr_inv
        have hb : (0 : Int) ≤ (k : Int) ∧ (k : Int) < (n : Int) := ⟨Int.natCast_nonneg k, Int.ofNat_lt.2 hlt⟩
        refine ⟨.pointer (some ⟨l.blk, l.off + (_ + k * sizeT T e), none⟩), ?_, .ptr hl⟩
        simp only [Instr.indexAt, asIntOf, Sem.run_bind, Sem.run_pure, Result.andThen, hue, run_sureAddr, hb, and_self, if_true, hsz, add_addr, Int.toNat_natCast, Nat.add_assoc]
      · cases hv
    · cases hv
  · rename_i e hu
    obtain ⟨h0, hv⟩ := bif_none hv
    have hs : sizeT T e ≠ 0 := fun e => by rw [natbeq.2 e] at h0; cases h0
    have hue := run_und hT hu (by intro e; cases e) w
    have hsz := run_size hT hs w
    have key : ∀ (l : Loc) (b : K) (o len cap k : Nat), φ b = some l → idx len i = some k → cx = .slice (some ⟨l.blk, l.off + o, none⟩) len cap → v = .ptr b (Nat.add o (Nat.mul k (sizeT T e))) →
        POk P (Instr.indexAt t cx ci) φ w v := by
      rintro l b o len cap k hl hk rfl rfl
      obtain ⟨kd, rfl, hlt⟩ := idx_ok hi hk
      have hb : (0 : Int) ≤ (k : Int) ∧ (k : Int) < (len : Int) := ⟨Int.natCast_nonneg k, Int.ofNat_lt.2 hlt⟩
      refine ⟨.pointer (some ⟨l.blk, l.off + (o + k * sizeT T e), none⟩), ?_, .ptr hl⟩
      simp only [Instr.indexAt, asIntOf, Sem.run_bind, Sem.run_pure, Result.andThen, hue, hb, and_self, if_true, hsz, add_addr, Int.toNat_natCast, Nat.add_assoc]
    unfold fIaS iaAt at hv
    split at hv
    · split at hv
      · rename_i k hk
        cases hv
        cases hx with
        | slc hl _ => exact key _ _ _ _ _ _ hl hk rfl rfl
      · cases hv
    · split at hv
      · rename_i k hk
        cases hv
        cases hx with
        | opn hl _ _ _ => exact key _ _ _ _ _ _ hl hk rfl rfl
        | opn0 _ _ => obtain ⟨_, _, hlt⟩ := idx_ok hi hk; exact absurd hlt (Nat.not_lt_zero _)
      · cases hv
    · cases hv
  · cases hv
end

end Go.AX

/- THE ENGINE: operations, the seventh part: elements, loads, stores, new variables. -/
namespace Go.AX
set_option linter.unusedSimpArgs false
set_option linter.unusedVariables false

variable {P : Program} {φ : Phi} {h : Hp} {w : World}

theorem extract_ok {i : Nat} {x v : AV} {cx : Value} (hx : VRel φ x cx) (hv : fEx i x = some v) : POk P (Instr.extract cx i) φ w v := by
  unfold fEx at hv
  split at hv
  · cases hx with
    | tup ha =>
      rw [nthL_eq] at hv
      obtain ⟨y, hy, hr⟩ := ha.get hv
      exact ⟨y, by simp [Instr.extract, hy], hr⟩
  · cases hv

theorem string_get {bs : ByteArray} {s : List Nat} (hs : bs.data.toList.map (·.toNat) = s) {k c : Nat} (hk : s[k]? = some c) : ∃ b : UInt8, bs[k]? = some b ∧ b.toNat = c := by
  rw [← hs, List.getElem?_map] at hk
  cases hb : bs.data.toList[k]? with
  | none => rw [hb] at hk; cases hk
  | some b =>
    rw [hb] at hk
    cases hk
    refine ⟨b, ?_, rfl⟩
    have hlt : k < bs.data.toList.length := by
      rcases Nat.lt_or_ge k bs.data.toList.length with h | h
      · exact h
      · rw [List.getElem?_eq_none h] at hb; cases hb
    have hlt' : k < bs.size := hlt
    rw [List.getElem?_eq_getElem hlt] at hb
    have e := Option.some.inj hb
    rw [getElem?_pos bs k hlt']
    exact congrArg some e

theorem indexStr_ok {T : Cx} (hT : TabOk P T.types) {t : TypeId} (hu : undT T t = .string) {x i v : AV} {cx ci : Value} (hx : VRel φ x cx) (hi : VRel φ i ci) (hv : fIxS x i = some v) :
    POk P (Instr.index t cx ci) φ w v := by
  have hue := run_und hT hu (by intro e; cases e) w
  unfold fIxS at hv
  split at hv
  · split at hv
    · split at hv
      · rename_i s _ kd k _ c hc
        cases hv
        rw [nthL_eq] at hc
        obtain ⟨bs, rfl, hs⟩ := hx.str_inv
        rw [hi.int_inv]
        obtain ⟨b, hb, hbc⟩ := string_get hs hc
        refine ⟨.int .u8 b.toNat, ?_, ?_⟩
        · have : (0 : Int) ≤ Int.ofNat k := Int.natCast_nonneg k
          have e : (Int.ofNat k).toNat = k := rfl
          simp only [Instr.index, asIntOf, Sem.run_bind, Sem.run_pure, Result.andThen, hue, this, if_true, e, hb]
        · rw [hbc]; exact .int _ _
      · cases hv
    · cases hv
  · cases hv

theorem indexArr_ok {T : Cx} (hT : TabOk P T.types) {t e : TypeId} {n : Nat} (hu : undT T t = .array n e) (hk : known T e = true) {x i v : AV} {cx ci : Value} (hx : VRel φ x cx) (hi : VRel φ i ci)
    (hv : (bif isAggD (undT T e) then fIxN n (sizeT T e) (sizeT T e) x i else fIx1 n (sizeT T e) x i) = some v) : POk P (Instr.index t cx ci) φ w v := by
  have hue := run_und hT hu (by intro e; cases e) w
  obtain ⟨ti, ht⟩ := known_ok hk
  have hsz := run_size_known hT ht w
  have key : ∀ m a k, x = .agg m a → idx n i = some k → (bif isAggD (undT T e) then (bif Nat.ble (Nat.add (Nat.mul k (sizeT T e)) (sizeT T e)) m then some (.agg (sizeT T e) (takeL (sizeT T e) (dropL (Nat.mul k (sizeT T e)) a))) else none) else nthL (Nat.mul k (sizeT T e)) a) = some v →
      POk P (Instr.index t cx ci) φ w v := by
    rintro m a k rfl hix hv
    obtain ⟨fa, rfl, h1, h2, ha, hc⟩ := hx.cells_size_agg
    obtain ⟨kd, rfl, hlt⟩ := idx_ok hi hix
    obtain ⟨cv, hrun, hr⟩ := part_ok (P := P) (w := w) hT hk ha h2 hc hv
    have hb : (0 : Int) ≤ (k : Int) ∧ (k : Int) < (n : Int) := ⟨Int.natCast_nonneg k, Int.ofNat_lt.2 hlt⟩
    refine ⟨cv, ?_, hr⟩
    simp only [Instr.index, asIntOf, Sem.run_bind, Sem.run_pure, Result.andThen, hue, hb, and_self, if_true, Int.toNat_natCast, hsz]
    exact hrun
  cases hA : isAggD (undT T e) with
  | true =>
    rw [hA] at hv
    simp only [cond_true] at hv
    unfold fIxN at hv
    split at hv
    · split at hv
      · rename_i hix; exact key _ _ _ rfl hix (by rw [hA]; exact hv)
      · cases hv
    · cases hv
  | false =>
    rw [hA] at hv
    simp only [cond_false] at hv
    unfold fIx1 at hv
    split at hv
    · split at hv
      · rename_i hix; exact key _ _ _ rfl hix (by rw [hA]; exact hv)
      · cases hv
    · cases hv

theorem ld1_ok (hr : Rel φ h w) {x v : AV} {cx : Value} (hx : VRel φ x cx) (hv : fLd1 x h = some v) : ∃ a, cx = .pointer (some a) ∧ POk P (load a) φ w v := by
  unfold fLd1 at hv
  split at hv
  · obtain ⟨l, hl, rfl⟩ := hx.ptr_inv
    obtain ⟨cv, hc, hrv, _⟩ := get1_ok hr hv hl
    exact ⟨_, rfl, cv, by simp [load, Sem.run, hc], hrv⟩
  · cases hv

theorem ldN_ok (hr : Rel φ h w) {n : Nat} {x v : AV} {cx : Value} (hx : VRel φ x cx) (hv : fLdN n x h = some v) : ∃ a cs, cx = .pointer (some a) ∧ (loadCells a n).run P w = .ok cs w ∧ VRel φ v (.agg cs) := by
  unfold fLdN at hv
  split at hv
  · obtain ⟨l, hl, rfl⟩ := hx.ptr_inv
    split at hv
    · rename_i hg
      cases hv
      obtain ⟨cs, hc, hn, hk⟩ := getR_ok hr hg hl
      have := hc.run (P := P)
      rw [hn] at this
      exact ⟨_, _, rfl, this, .agg hn hk hc.1⟩
    · cases hv
  · cases hv

theorem load_ok {T : Cx} (hT : TabOk P T.types) {t : TypeId} (hk : known T t = true) (hr : Rel φ h w) {x v : AV} {cx : Value} (hx : VRel φ x cx)
    (hv : (bif isAggD (undT T t) then fLdN (sizeT T t) x h else fLd1 x h) = some v) : ∃ a, cx = .pointer (some a) ∧ POk P (loadVar t a) φ w v := by
  obtain ⟨ti, ht⟩ := known_ok hk
  have hagg := run_isAgg hT ht w
  have hsz := run_size_known hT ht w
  cases hA : isAggD (undT T t) with
  | true =>
    rw [hA] at hv hagg
    obtain ⟨a, cs, rfl, hl, hrel⟩ := ldN_ok (P := P) hr hx hv
    exact ⟨a, rfl, _, by simp [loadVar, hagg, hsz, hl], hrel⟩
  | false =>
    rw [hA] at hv hagg
    obtain ⟨a, rfl, cv, hl, hrel⟩ := ld1_ok (P := P) hr hx hv
    exact ⟨a, rfl, cv, by simp only [loadVar, Sem.run_bind, hagg, Result.andThen, Bool.false_eq_true, if_false]; exact hl, hrel⟩

theorem loadAt_ok {T : Cx} (hT : TabOk P T.types) {t : TypeId} (hk : known T t = true) (hr : Rel φ h w) {x v : AV} {cx : Value} (hx : VRel φ x cx)
    (hv : (bif isAggD (undT T t) then fLdN (sizeT T t) x h else fLd1 x h) = some v) : POk P (Instr.loadAt t cx) φ w v := by
  obtain ⟨a, rfl, cv, hl, hrel⟩ := load_ok hT hk hr hx hv
  exact ⟨cv, by simp [Instr.loadAt, Instr.sureAddr, hl], hrel⟩

theorem cells_one {v : AV} {cv : Value} (hv : VRel φ v cv) (hc : isCell v = true) : cv.cells = #[cv] := by
  have h1 := (one_of_isCell hv hc).1
  cases cv <;> first | rfl | exact absurd rfl (h1 _)

theorem store_ok {T : Cx} (hT : TabOk P T.types) {t : TypeId} (hk : known T t = true) (hr : Rel φ h w) {a x : AV} {ca cx : Value} (ha : VRel φ a ca) (hx : VRel φ x cx) {h' : Hp}
    (hv : (bif isAggD (undT T t) then fStN (sizeT T t) a x h else bif Nat.beq (sizeT T t) 1 then fSt1 a x h else none) = some h') : UOk P (Instr.storeAt t ca cx) φ h w h' := by
  obtain ⟨ti, ht⟩ := known_ok hk
  have hsz := run_size_known hT ht w
  cases hA : isAggD (undT T t) with
  | true =>
    rw [hA] at hv
    simp only [cond_true] at hv
    unfold fStN at hv
    split at hv
    · split at hv
      · obtain ⟨hm, hv⟩ := bif_some hv
        have hm := natbeq.1 hm
        obtain ⟨l, hl, rfl⟩ := ha.ptr_inv
        obtain ⟨fa, rfl, h1, h2, hf, hc⟩ := hx.cells_size_agg
        obtain ⟨w', hst, r1, r2⟩ := setR_ok (P := P) hr hv (by rw [h2, hm]) hl hf hc
        refine ⟨w', φ, ?_, r1, r2⟩
        have e : fa.length = sizeT T t := by rw [h1, hm]
        simp [Instr.storeAt, Instr.sureAddr, storeVar, Value.cells, hsz, e, hst]
      · cases hv
    · cases hv
  | false =>
    rw [hA] at hv
    obtain ⟨h1, hv⟩ := bif_some hv
    have h1 := natbeq.1 h1
    unfold fSt1 at hv
    split at hv
    · obtain ⟨hc, hv⟩ := bif_some hv
      obtain ⟨l, hl, rfl⟩ := ha.ptr_inv
      obtain ⟨w', hst, r1, r2⟩ := setR_ok (P := P) hr hv rfl hl (.cons hx .nil) (by intro v hv; rcases List.mem_singleton.1 hv with rfl; exact hc)
      refine ⟨w', φ, ?_, r1, r2⟩
      simp [Instr.storeAt, Instr.sureAddr, storeVar, cells_one hx hc, hsz, h1, hst]
    · cases hv

theorem cellsAs_ok {ag : Bool} {n : Nat} {x : AV} {cx : Value} (hx : VRel φ x cx) {cs : List AV} (hc : cellsAs ag n x = some cs) :
    ∃ fa : List Value, cx.cells = fa.toArray ∧ VRels φ cs fa ∧ cs.length = n ∧ ∀ v, v ∈ cs → isCell v = true := by
  have one : ag = false → isCell x = true → (bif Nat.beq n 1 then some [x] else none) = some cs → ∃ fa : List Value, cx.cells = fa.toArray ∧ VRels φ cs fa ∧ cs.length = n ∧ ∀ v, v ∈ cs → isCell v = true := by
    intro _ hk hc
    obtain ⟨h1, hc⟩ := bif_some hc
    cases hc
    exact ⟨[cx], by rw [cells_one hx hk], .cons hx .nil, (natbeq.1 h1).symm, by intro v hv; rcases List.mem_singleton.1 hv with rfl; exact hk⟩
  unfold cellsAs at hc
  split at hc
  · obtain ⟨h1, hc⟩ := bif_some hc
    cases hc
    obtain ⟨fa, rfl, h2, h3, hf, hk⟩ := hx.cells_size_agg
    exact ⟨fa, rfl, hf, by rw [h3]; exact natbeq.1 h1, hk⟩
  · cases hc
  · cases hc
  · rename_i hn1 hn2
    refine one rfl ?_ hc
    cases x <;> first | rfl | exact absurd rfl (hn1 _ _) | exact absurd rfl (hn2 _)
  · cases hc

/-- A block of one element. -/
theorem new_ok (hr : Rel φ h w) {s : Nat} (hs : 0 < s) {cs : List AV} {fa : List Value} (hf : VRels φ cs fa) (hl : cs.length = s) (hk : ∀ v, v ∈ cs → isCell v = true) (e : TypeId) :
    ∃ φ', Rel φ' (h.new (.cells 1 s cs .leaf e false .no)) (World.push w (.cells fa.toArray e)) ∧ Ext φ h w φ' (h.new (.cells 1 s cs .leaf e false .no)) (World.push w (.cells fa.toArray e)) ∧
      VRel φ' (.ptr h.next 0) (.pointer (some ⟨w.heap.size, 0, none⟩)) := by
  have hle : φ.le (φ.add h.next ⟨w.heap.size, 0, 0, 0⟩) := Phi.le_add _ (hr.fresh _ (Nat.le_refl _))
  have hfl := hf.length
  have hch : ∀ i, chunk cs .leaf i = cs := fun i => by unfold chunk; rw [PT.get_leaf]
  obtain ⟨r1, r2⟩ := hr.new (o' := .cells 1 s cs .leaf e false .no) ⟨w.heap.size, 0, 0, 0⟩ rfl (X := .cells fa.toArray e) ⟨fa.toArray, (0, 0), rfl, by
    refine ⟨by omega, hs, fun i hi => ?_, fun i hi j v hv => ?_, fun i hi v hv => ?_, rfl, fun _ => ⟨rfl, by rw [← hl, hfl]; simp⟩, fun ho => by cases ho⟩
    · rw [hch]; exact hl
    · rw [hch] at hv
      obtain ⟨y, hy, hyr⟩ := hf.get hv
      refine ⟨y, ?_, hyr.mono hle⟩
      have : i = 0 := by omega
      subst this
      simpa using hy
    · rw [hch] at hv; exact hk v hv⟩
  exact ⟨_, r1, r2, .ptr (l := ⟨w.heap.size, 0, 0, 0⟩) (Phi.add_same _ _ _)⟩

theorem box_ok (hr : Rel φ h w) {e : TypeId} {s : Nat} (hs : s ≠ 0) {ag : Bool} {x v : AV} {cx : Value} (hx : VRel φ x cx) {h' : Hp} (hv : fBox e s ag x h = some (v, h')) :
    VOk P (Instr.box e cx) φ h w v h' := by
  unfold fBox at hv
  split at hv
  · rename_i cs hc
    cases hv
    obtain ⟨fa, e1, hf, hl, hk⟩ := cellsAs_ok hx hc
    obtain ⟨φ', r1, r2, r3⟩ := new_ok hr (Nat.pos_of_ne_zero hs) hf hl hk e
    exact ⟨_, _, φ', by simp only [Instr.box, newVar, newRow, newObj, Sem.run_bind, Sem.run, Result.andThen, e1, Sem.run_pure]; rfl, r1, r2, r3⟩
  · cases hv

theorem alloc_ok {T : Cx} (hT : TabOk P T.types) (hr : Rel φ h w) {e : TypeId} {z : List AV} (hz : zcells T e = some z) :
    VOk P (Instr.alloc e true (.tuple #[])) φ h w (.ptr h.next 0) (h.new (.cells 1 (sizeT T e) z .leaf e false .no)) := by
  obtain ⟨ti, zv, ht, hzz, hall, hsz, hne, rfl⟩ := zcells_ok hz
  have hzero := run_zero_of hT ht hzz w
  obtain ⟨φ', r1, r2, r3⟩ := new_ok hr (Nat.pos_of_ne_zero hne) (ofCs_rel φ hall) (by simp [hsz]) (fun v hv => by
    obtain ⟨u, hu, rfl⟩ := List.mem_map.1 hv
    exact ofC_cell (List.all_eq_true.1 hall u hu)) e
  refine ⟨_, _, φ', ?_, r1, r2, r3⟩
  simp only [Instr.alloc, Sem.run_bind, hzero, Result.andThen, newVar, newRow, newObj, Sem.run, Sem.run_pure, Array.toArray_toList]
  rfl

end Go.AX

/- THE ENGINE: operations, the eighth part: nil checks, conversions. -/
namespace Go.AX
set_option linter.unusedSimpArgs false
set_option linter.unusedVariables false

variable {P : Program} {φ : Phi} {h : Hp} {w : World}

theorem methodV_ok {T : Cx} {t : TypeId} {name : String} {g : FuncId} (h : methodV T t name = some g) :
    ∃ ti m e, tinf T t = some ti ∧ ti.und = .pointer e ∧ ti.info.methods.find? (·.name == name) = some m ∧ m.path = #[] ∧ m.func = some (g, true) := by
  unfold methodV at h
  split at h
  · rename_i ti ht
    split at h
    · rename_i m hm
      split at h
      · rename_i e hp hf hu
        cases h
        exact ⟨ti, m, e, ht, hu, by rw [← hm, Array.find?_toList], by simpa using hp, hf⟩
      · cases h
    · cases h
  · cases h

theorem nilAhead_ok {T : Cx} (hT : TabOk P T.types) {t : TypeId} {name : String} {g : FuncId} (h : methodV T t name = some g) (n : Nat) (v : Value) :
    (nilAhead (n + 1) t v name).run P w = .ok (some false) w := by
  obtain ⟨ti, m, e, ht, hu, hm, hp, hf⟩ := methodV_ok h
  unfold nilAhead
  simp [typeInfo, (tinf_ok hT ht).1, hm, hp, followBlind, hf]

theorem method_ok {T : Cx} (hT : TabOk P T.types) {t : TypeId} {name : String} {g : FuncId} (h : methodV T t name = some g) (n : Nat) (v : Value) :
    (method (n + 1) t v name).run P w = .ok (g, v) w := by
  obtain ⟨ti, m, e, ht, hu, hm, hp, hf⟩ := methodV_ok h
  unfold method
  have hue := (tinf_ok hT ht).2
  rw [hu] at hue
  simp [typeInfo, (tinf_ok hT ht).1, hm, hp, follow, hf, receiverAt, run_underlying hue, Place.get]

theorem nilCheck_ok {T : Cx} (hT : TabOk P T.types) {x v : AV} {o : Oper} {ρ : Operand → Value} {xo : Operand} (ho : o.op = .nilCheck xo) (hx : VRel φ x (ρ xo)) (hv : fNilc (methodV T) x = some v) :
    ∃ cv, (execOp ρ o).run P w = .ok (.value cv) w ∧ VRel φ v cv := by
  unfold fNilc at hv
  unfold execOp
  simp only [ho]
  split at hv
  · cases hv
    obtain ⟨l, hl, e⟩ := hx.ptr_inv
    exact ⟨_, by rw [e]; rfl, .ptr hl⟩
  · cases hv
    have hx' := hx
    generalize ρ xo = c at hx hx'
    cases hx with
    | fn ha hc => exact ⟨_, rfl, hx'⟩
  · cases hv
    have hx' := hx
    generalize ρ xo = c at hx hx'
    cases hx with
    | yld hl => exact ⟨_, rfl, hx'⟩
  · cases hv
    have hx' := hx
    generalize ρ xo = c at hx hx'
    cases hx with
    | ifc hl => exact ⟨_, rfl, hx'⟩
  · split at hv
    · split at hv
      · rename_i g hg
        cases hv
        have hx' := hx
        generalize ρ xo = c at hx hx'
        cases hx with
        | mth ha => cases ha with
          | cons hi hs => cases hi with
            | ifc hc =>
              refine ⟨_, ?_, hx'⟩
              have hn := fun v => nilAhead_ok (w := w) hT hg (P.types.size + 99) v
              simp only [List.getElem?_toArray, List.getElem?_cons_zero, Sem.run_bind, program, Sem.run, Result.andThen]
              rw [show P.types.size + Made.depth = P.types.size + 99 + 1 from rfl, hn]
              simp
      · cases hv
    · cases hv
  · cases hv

/-! New slices -/
theorem newS_ok (hr : Rel φ h w) {s : Nat} (hs : 0 < s) {L : List (List AV)} {cvs : List Value} (rest : List Value) (hL : L.length ≤ 1048576) (hw : ∀ x, x ∈ L → x.length = s)
    (hv : VRels φ L.flatten cvs) (hk : ∀ v, v ∈ L.flatten → isCell v = true) {frz : Frz} {f : Nat × Nat} (hf : fzOk frz f (cvs ++ rest).length (L.length * s)) (hd : s ∣ (cvs ++ rest).length) (e : TypeId) :
    ∃ φ', Rel φ' (newS h e s L true frz) (World.push w (.cells (cvs ++ rest).toArray e f)) ∧ Ext φ h w φ' (newS h e s L true frz) (World.push w (.cells (cvs ++ rest).toArray e f)) ∧
      φ' h.next = some ⟨w.heap.size, 0, (cvs ++ rest).length, s⟩ := by
  have hle : φ.le (φ.add h.next ⟨w.heap.size, 0, (cvs ++ rest).length, s⟩) := Phi.le_add _ (hr.fresh _ (Nat.le_refl _))
  have hfl := flatten_length L hw
  have hcl := hv.length
  obtain ⟨r1, r2⟩ := hr.new (o' := .cells L.length s [] (putEs .leaf L 0) e true frz) ⟨w.heap.size, 0, (cvs ++ rest).length, s⟩ rfl (X := .cells (cvs ++ rest).toArray e f)
    ⟨_, f, rfl, CRel.fresh rest hs hL hw (hv.mono hle) hk rfl hf (fun ho => by cases ho) (fun _ => ⟨rfl, by rw [List.length_append, ← hcl, hfl]; show _ ≤ L.length * s + _; omega, rfl, hd⟩)⟩
  unfold newS
  rw [lenL_eq]
  exact ⟨_, r1, r2, Phi.add_same _ _ _⟩

/-! Bytes -/
theorem bytesOf_cons (x : AV) (t : List AV) : bytesOf (x :: t) = (match x with
    | .int .u8 (.ofNat n) => (match bytesOf t with | some r => some (Nat.mod n 256 :: r) | none => none)
    | _ => none) := rfl

theorem bytesOf_ok : ∀ {l : List AV} {cvs : List Value} {s : List Nat}, VRels φ l cvs → bytesOf l = some s →
    ∃ ns : List Int, cvs = ns.map (Value.int .u8) ∧ (ns.map fun n => UInt8.ofNat n.toNat).map (·.toNat) = s := by
  intro l
  induction l with
  | nil => intro cvs s hv hb; cases hv; cases hb; exact ⟨[], rfl, rfl⟩
  | cons x t ih =>
    intro cvs s hv hb
    cases hv with
    | cons hx ht =>
      rw [bytesOf_cons] at hb
      split at hb
      · split at hb
        · rename_i n _ r hr
          cases hb
          obtain ⟨ns, e1, e2⟩ := ih ht hr
          refine ⟨Int.ofNat n :: ns, by rw [hx.int_inv, e1]; rfl, ?_⟩
          simp only [List.map_cons, List.cons.injEq]
          exact ⟨by simp; rfl, e2⟩
        · cases hb
      · cases hb

theorem foldl_bytes {ns : List Int} : (ns.foldl (fun r n => r.push (UInt8.ofNat n.toNat)) ByteArray.empty).data.toList.map (·.toNat) = (ns.map fun n => UInt8.ofNat n.toNat).map (·.toNat) := by
  have : ∀ (ns : List Int) (s : ByteArray), (ns.foldl (fun r n => r.push (UInt8.ofNat n.toNat)) s).data.toList = s.data.toList ++ ns.map fun n => UInt8.ofNat n.toNat := by
    intro ns
    induction ns with
    | nil => intro s; simp
    | cons n t ih => intro s; rw [List.foldl_cons, ih]; simp [ByteArray.push]
  rw [this]; rfl

theorem bs_ok {T : Cx} (hT : TabOk P T.types) {src dst e : TypeId} (hs : undT T src = .slice e) (he : undT T e = .int .u8) (hd : undT T dst = .string) (hr : Rel φ h w) {b : K} {o len : Nat} {l : Loc} (hl : φ b = some l)
    {L : List (List AV)} (hg : getEs h b o 1 len = some L) {s : List Nat} (hb : bytesOf (flatL L) = some s) (cap : Nat) :
    POk P (convert src dst (.slice (some ⟨l.blk, l.off + o, none⟩) len cap)) φ w (.str s) := by
  have us := und_ok hT hs (by intro e; cases e)
  have ue := und_ok hT he (by intro e; cases e)
  have ud := und_ok hT hd (by intro e; cases e)
  obtain ⟨cs, hc⟩ := getEs_ok hr hg hl
  rw [flatL_eq] at hb
  obtain ⟨ns, e1, e2⟩ := bytesOf_ok hc.cells.1 hb
  have hlen : L.flatten.length = len := by rw [flatten_length L hc.width, hc.count, Nat.mul_one]
  have hrun := hc.cells.run (P := P)
  rw [hlen, e1] at hrun
  refine ⟨_, by rw [run_convert_bytes_string w src dst e _ _ _ us ue ud, run_bytesToString w _ _ _ ns hrun], .str ?_⟩
  rw [foldl_bytes]
  exact e2
end Go.AX

/- THE ENGINE: operations, the ninth part: conversions. -/
namespace Go.AX
set_option linter.unusedSimpArgs false
set_option linter.unusedVariables false

variable {P : Program} {φ : Phi} {h : Hp} {w : World}

theorem unitsOf_flat (s : List Nat) : (unitsOf s).flatten = cellsOf s := by
  unfold unitsOf cellsOf
  rw [mapL_eq, mapL_eq]
  induction s with
  | nil => rfl
  | cons a t ih => rw [List.map_cons, List.map_cons, List.flatten_cons, ih]; rfl

theorem unitsOf_len (s : List Nat) : (unitsOf s).length = s.length := by unfold unitsOf; rw [mapL_eq, List.length_map]
theorem unitsOf_width (s : List Nat) : ∀ x, x ∈ unitsOf s → x.length = 1 := by
  unfold unitsOf; rw [mapL_eq]
  intro x hx
  obtain ⟨n, _, rfl⟩ := List.mem_map.1 hx
  rfl
theorem cellsOf_cell (s : List Nat) : ∀ v, v ∈ cellsOf s → isCell v = true := by
  unfold cellsOf; rw [mapL_eq]
  intro x hx
  obtain ⟨n, _, rfl⟩ := List.mem_map.1 hx
  rfl

theorem cellsOf_rel (φ : Phi) {l : List UInt8} {s : List Nat} (hs : l.map (·.toNat) = s) : VRels φ (cellsOf s) (l.map fun b => Value.int .u8 b.toNat) := by
  subst hs
  unfold cellsOf; rw [mapL_eq]
  induction l with
  | nil => exact .nil
  | cons a t ih => exact .cons (.int _ _) ih

theorem sb_ok {T : Cx} (hT : TabOk P T.types) {src dst e : TypeId} (hs : undT T src = .string) (hd : undT T dst = .slice e) (he : undT T e = .int .u8) (hr : Rel φ h w) {s : List Nat} {bs : ByteArray}
    (hb : bs.data.toList.map (·.toNat) = s) (hle : s.length ≤ 1048576) : VOk P (convert src dst (.string bs)) φ h w (.opn h.next 0 s.length 1) (newS h e 1 (unitsOf s) true .str) := by
  have us := und_ok hT hs (by intro e; cases e)
  have ue := und_ok hT he (by intro e; cases e)
  have ud := und_ok hT hd (by intro e; cases e)
  have hrun := run_bytes_of_string (P := P) w src dst e bs us ud ue
  have hsz : bs.size = s.length := by rw [← hb, List.length_map]; rfl
  have hcap : bs.size ≤ grownCap w bs.size 0 e := grownCap_ge _ _ _ _
  generalize grownCap w bs.size 0 e = cap at hrun hcap
  obtain ⟨r0, x0⟩ := hr.drawn (w.drawn + 1)
  have hrow : bytesRow bs cap = ((bs.data.toList.map fun b => Value.int .u8 b.toNat) ++ List.replicate (cap - bs.size) (Value.int .u8 0)).toArray := by
    unfold bytesRow
    apply Array.ext'
    simp
  rw [hrow] at hrun
  have hlen : ((bs.data.toList.map fun b => Value.int .u8 b.toNat) ++ List.replicate (cap - bs.size) (Value.int .u8 0)).length = cap := by
    rw [List.length_append, List.length_map, List.length_replicate]
    have : bs.data.toList.length = bs.size := rfl
    omega
  obtain ⟨φ', r1, r2, r3⟩ := newS_ok (h := h) (w := { w with drawn := w.drawn + 1 }) r0 (s := 1) (by omega) (L := unitsOf s) (List.replicate (cap - bs.size) (Value.int .u8 0)) (by rw [unitsOf_len]; exact hle) (unitsOf_width s)
    (by rw [unitsOf_flat]; exact cellsOf_rel φ hb) (by rw [unitsOf_flat]; exact cellsOf_cell s) (frz := .str) (f := (cap, cap + 1)) (by
      intro i hi
      rw [hlen] at hi
      show ¬ (cap ≤ i ∧ i < cap + 1)
      omega) (Nat.one_dvd _) e
  rw [hlen] at r3
  refine ⟨_, _, φ', hrun, ?_, x0.trans ?_, ?_⟩
  · have := r1
    simp only [List.size_toArray, hlen]
    exact r1
  · simp only [List.size_toArray, hlen]
    exact r2
  · rw [hsz]
    have := VRel.opn (φ := φ') (b := h.next) (o := 0) (len := s.length) (c := cap) (sz := 1) r3 rfl (by simp) (by omega)
    exact this

theorem run_seenAt {b : Nat} {c : Array Value} {e : TypeId} {f : Nat × Nat} (hX : w.heap[b]? = some (.cells c e f)) (o : Nat) : (Conv.seenAt ⟨b, o, none⟩).run P w = .ok ⟨b, o, none⟩ w := by
  have s1 : w.shape? b = some (e, c.size) := by simp [World.shape?, hX]
  simp [Conv.seenAt, viewAt, shape, Sem.run, s1, Result.andThen]

theorem pu_ok {T : Cx} (hT : TabOk P T.types) {src dst e : TypeId} (hs : undT T src = .pointer e) (hd : undT T dst = .unsafePointer) (he : sizeT T e ≠ 0) (hr : Rel φ h w) {b : K} {o : Nat} {l : Loc} (hl : φ b = some l)
    {m s : Nat} {d : List AV} {cs : PT (List AV)} {e' : TypeId} {op : Bool} {fz : Frz} (hb : h.get b = some (.cells m s d cs e' op fz)) (hlt : o < m * s) :
    POk P (convert src dst (.pointer (some ⟨l.blk, l.off + o, none⟩))) φ w (.ptr b o) := by
  have us := und_ok hT hs (by intro e; cases e)
  have ud := und_ok hT hd (by intro e; cases e)
  have hsz := run_size hT he w
  obtain ⟨c, f, hX, hc⟩ := Hp.get_cells hr hb hl
  have hend := hc.end_le
  have s1 : w.shape? l.blk = some (e', c.size) := by simp [World.shape?, hX]
  refine ⟨_, ?_, .ptr hl⟩
  have h1 := run_seenAt (P := P) hX (l.off + o)
  have h2 : (cellsIn l.blk).run P w = .ok (some c.size) w := by simp [cellsIn, shape, Sem.run, s1, Result.andThen]
  have h3 : ¬ c.size ≤ l.off + o := by omega
  simp [convert, run_underlying us, run_underlying ud, Conv.unsafePointer, h1, h2, h3, hsz, he]

theorem up_ok {T : Cx} (hT : TabOk P T.types) {src dst e : TypeId} (hs : undT T src = .unsafePointer) (hd : undT T dst = .pointer e) (he : sizeT T e ≠ 0) (hr : Rel φ h w) {b : K} {l : Loc} (hl : φ b = some l)
    {d : List AV} {cs : PT (List AV)} {fz : Frz} (hb : h.get b = some (.cells 1 (sizeT T e) d cs e false fz)) :
    POk P (convert src dst (.pointer (some ⟨l.blk, l.off + 0, none⟩))) φ w (.ptr b 0) := by
  have us := und_ok hT hs (by intro e; cases e)
  have ud := und_ok hT hd (by intro e; cases e)
  have hsz := run_size hT he w
  obtain ⟨c, f, hX, hc⟩ := Hp.get_cells hr hb hl
  obtain ⟨h0, h1⟩ := hc.shut rfl
  have s1 : w.shape? l.blk = some (e, c.size) := by simp [World.shape?, hX]
  obtain ⟨ti, _, hi, hsi⟩ := size_ok hT he
  have hcells : P.cellsOf e = sizeT T e := by simp [Program.cellsOf, hi, hsi]
  refine ⟨_, ?_, .ptr hl⟩
  have h2 := run_seenAt (P := P) hX (l.off + 0)
  have h3 : (variablesAt ⟨l.blk, l.off + 0, none⟩ e 1).run P w = .ok true w := by
    simp only [variablesAt, program, shape, Sem.run_bind, Sem.run, s1, Result.andThen, Sem.run_pure]
    congr 1
    rw [show P.depth = (2 * (P.types.size + Made.depth) + 1) + 1 from rfl]
    unfold liesAt rowAt
    have e1 : c.size / sizeT T e = 1 := by rw [h1, Nat.one_mul]; exact Nat.div_self (Nat.pos_of_ne_zero he)
    have e2 : sameLayout P (2 * (P.types.size + Made.depth) + 1 + 1) e e = true := by unfold sameLayout; simp
    simp [hcells, he, e1, h0, e2, Program.depth]
  rw [Nat.add_zero] at h2 h3 ⊢
  simp [convert, run_underlying us, run_underlying ud, Conv.unsafePointer, h2, h3, hsz, he]

theorem vok_of {s : Sem Value} (hr : Rel φ h w) {v : AV} (cv : Value) (hrun : s.run P w = .ok cv w) (hv : VRel φ v cv) : VOk P s φ h w v h := ⟨cv, w, φ, hrun, hr, Ext.refl _ _ _, hv⟩

theorem conv_ok {T : Cx} (hT : TabOk P T.types) {src dst : TypeId} (hr : Rel φ h w) {x v : AV} {cx : Value} (hx : VRel φ x cx) {h' : Hp} (hv : convV h (vkOf T src dst) x = some (v, h')) :
    VOk P (convert src dst cx) φ h w v h' := by
  unfold vkOf at hv
  split at hv
  · -- ints
    rename_i k0 k hs hd
    have us := und_ok hT hs (by intro e; cases e)
    have ud := und_ok hT hd (by intro e; cases e)
    unfold convV at hv
    split at hv <;> first | (cases hv; done) | skip
    all_goals first | (rename_i heq; cases heq; done) | skip
    rename_i k1 kk n heq
    cases heq
    cases hv
    rw [hx.int_inv]
    refine vok_of hr _ ?_ (.ret_int (wrapK_eq _ _))
    simp [convert, run_underlying us, run_underlying ud, Conv.intToInt]
  · rename_i hs hd
    have us := und_ok hT hs (by intro e; cases e)
    have ud := und_ok hT hd (by intro e; cases e)
    unfold convV at hv
    split at hv <;> first | (cases hv; done) | skip
    all_goals first | (rename_i heq; cases heq; done) | skip
    cases hv
    obtain ⟨bs, rfl, hb⟩ := hx.str_inv
    exact vok_of hr _ (by simp [convert, run_underlying us, run_underlying ud]) (.str hb)
  · -- bytes to a string
    rename_i e hs hd
    split at hv
    · rename_i he
      have us := und_ok hT hs (by intro e; cases e)
      have ud := und_ok hT hd (by intro e; cases e)
      have ue := und_ok hT he (by intro e; cases e)
      unfold convV at hv
      split at hv <;> first | (cases hv; done) | skip
      all_goals first | (rename_i heq; cases heq; done) | skip
      · cases hv
        cases hx
        exact vok_of hr (.string .empty) (by simp [convert, run_underlying us, run_underlying ud, run_underlying ue, Conv.bytesToString]) (.str rfl)
      · split at hv
        · split at hv
          · rename_i hg _ s hb
            cases hv
            cases hx with
            | slc hl _ => exact (bs_ok hT hs he hd hr hl hg hb _).vok hr
          · cases hv
        · cases hv
      · split at hv
        · split at hv
          · rename_i L hg _ s hb
            cases hv
            cases hx with
            | opn hl _ _ _ => exact (bs_ok hT hs he hd hr hl hg hb _).vok hr
            | opn0 hl _ =>
              obtain ⟨cs, hc⟩ := getEs_ok hr hg hl
              have hn : L = [] := List.length_eq_zero_iff.1 hc.count
              subst hn
              cases hb
              exact vok_of hr (.string .empty) (by simp [convert, run_underlying us, run_underlying ud, run_underlying ue, Conv.bytesToString, loadCells, loadCellsFrom]) (.str rfl)
          · cases hv
        · cases hv
    · unfold convV at hv; cases hv
  · rename_i e hs hd
    split at hv
    · rename_i he
      unfold convV at hv
      split at hv <;> first | (cases hv; done) | skip
      all_goals first | (rename_i heq; cases heq; done) | skip
      rename_i heq
      cases heq
      obtain ⟨hle, hv⟩ := bif_some hv
      cases hv
      obtain ⟨bs, rfl, hb⟩ := hx.str_inv
      rw [lenL_eq] at hle ⊢
      exact sb_ok hT hs hd he hr hb (natble.1 hle)
    · unfold convV at hv; cases hv
  · rename_i e hs hd
    cases h0 : Nat.beq (sizeT T e) 0 with
    | true => rw [h0] at hv; unfold convV at hv; cases hv
    | false =>
      have he : sizeT T e ≠ 0 := fun e => by rw [natbeq.2 e] at h0; cases h0
      rw [h0] at hv
      simp only [cond_false] at hv
      have us := und_ok hT hs (by intro e; cases e)
      have ud := und_ok hT hd (by intro e; cases e)
      unfold convV at hv
      split at hv <;> first | (cases hv; done) | skip
      all_goals first | (rename_i heq; cases heq; done) | skip
      · cases hv
        cases hx
        exact vok_of hr (.pointer none) (by simp [convert, run_underlying us, run_underlying ud, Conv.unsafePointer]) .nilp
      · split at hv
        · rename_i hb
          obtain ⟨hlt, hv⟩ := bif_some hv
          cases hv
          obtain ⟨l, hl, rfl⟩ := hx.ptr_inv
          exact (pu_ok hT hs hd he hr hl hb (natblt.1 hlt)).vok hr
        · cases hv
  · rename_i e hs hd
    cases h0 : Nat.beq (sizeT T e) 0 with
    | true => rw [h0] at hv; unfold convV at hv; cases hv
    | false =>
      have he : sizeT T e ≠ 0 := fun e => by rw [natbeq.2 e] at h0; cases h0
      rw [h0] at hv
      simp only [cond_false] at hv
      have us := und_ok hT hs (by intro e; cases e)
      have ud := und_ok hT hd (by intro e; cases e)
      unfold convV at hv
      split at hv <;> first | (cases hv; done) | skip
      all_goals first | (rename_i heq; cases heq; done) | skip
      · cases hv
        cases hx
        exact vok_of hr (.pointer none) (by simp [convert, run_underlying us, run_underlying ud, Conv.unsafePointer]) .nilp
      · rename_i heq
        cases heq
        split at hv
        · rename_i hb
          obtain ⟨hcond, hv⟩ := bif_some hv
          cases hv
          simp only [Bool.and_eq_true] at hcond
          have e1 := natbeq.1 hcond.1.1
          have e2 := natbeq.1 hcond.1.2
          have e3 := natbeq.1 hcond.2
          subst e1 e2 e3
          obtain ⟨l, hl, rfl⟩ := hx.ptr_inv
          exact (up_ok hT hs hd he hr hl hb).vok hr
        · cases hv
  · unfold convV at hv; cases hv

end Go.AX

