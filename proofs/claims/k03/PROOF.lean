import PyProof.Rows.All
import Wide.All
import OpenK.AllK
import Wide.FinOn
import PySem.Syntax
import PySem.PyData
import PyProof.ReprReads
import KE.KeyNested
import KE.LtData
import KE.DataEq
import PyProof.StrBlockL
import KE.IntText
import PyProof.P3Statements
import PyProof.PureStr
import HandS.ForMost
import HandS.ForExc
import HandS.Defaults
import HandS.CallSlots
import HandS.Flow
import HandS.Property
import HandS.HeadEnd
import HandS.EndBits
import KE.KExcSuper
import HandS.ExcInit
import HandS.ExcValue
import HandS.ExcField
import HandS.TryMany
import HandS.ExcIs
import HandS.Wide
import HandS.IsInst
import HandS.Star
import HandS.Conv
import HandS.WideBits
import HandS.TupLe
import HandS.Deep
import HandS.DictComp
import HandS.OwnEq
import HandS.SlotsOwn
import OpenK.KOps
import HandS.Iter
import HandS.More
import PyProof.ReprRoads
import KE.KDictList
import HandS.Finally
import HandS.Style
import HandS.HeadHook1
import HandS.HeadHook2
import HandS.Head2
import KE.IntBitsLaws
import PySem.Challenge.RW_billtrees_k03_errors_made
set_option Elab.async false
/-! Mini, part A: the values, the syntax and the meaning of a small deterministic fragment of Python. -/
set_option autoImplicit false
set_option linter.all false
namespace Mi
open PySem

/-- a value: immutable things are told whole (fls: a list that nobody changes any more, scr: the script, fdc: such a dict, obj: such an instance, exn: an exception); ref: a mutable object -/
inductive MV where
  | non | bl (b : Bool) | int (i : Int) | str (s : Str)
  | tup (xs : List MV) | fls (xs : List MV) | scr (xs : List MV) | fdc (ks vs : List MV)
  | obj (c : Str) (ns : List Str) (vs : List MV) | exn (c : Str) (ns : List Str) (vs : List MV) | ref (a : Nat)
  deriving Inhabited
mutual
def MV.beq : MV → MV → Bool
  | .non, .non => true
  | .bl a, .bl b => a == b
  | .int a, .int b => decide (a = b)
  | .str a, .str b => decide (a = b)
  | .tup a, .tup b => MV.beqs a b
  | .fls a, .fls b => MV.beqs a b
  | .scr a, .scr b => MV.beqs a b
  | .fdc a c, .fdc b d => MV.beqs a b && MV.beqs c d
  | .obj c ns a, .obj d ms b => decide (c = d) && decide (ns = ms) && MV.beqs a b
  | .exn c ns a, .exn d ms b => decide (c = d) && decide (ns = ms) && MV.beqs a b
  | .ref a, .ref b => decide (a = b)
  | _, _ => false
def MV.beqs : List MV → List MV → Bool
  | [], [] => true
  | a :: r, b :: s => MV.beq a b && MV.beqs r s
  | _, _ => false
end
mutual
theorem MV.beq_eq : ∀ (a b : MV), MV.beq a b = true ↔ a = b
  | .non, b => by cases b <;> simp [MV.beq]
  | .bl _, b => by cases b <;> simp [MV.beq]
  | .int _, b => by cases b <;> simp [MV.beq]
  | .str _, b => by cases b <;> simp [MV.beq]
  | .ref _, b => by cases b <;> simp [MV.beq]
  | .tup xs, b => by cases b <;> simp [MV.beq, MV.beqs_eq xs]
  | .fls xs, b => by cases b <;> simp [MV.beq, MV.beqs_eq xs]
  | .scr xs, b => by cases b <;> simp [MV.beq, MV.beqs_eq xs]
  | .fdc xs ys, b => by cases b <;> simp [MV.beq, MV.beqs_eq xs, MV.beqs_eq ys]
  | .obj _ _ xs, b => by cases b <;> simp [MV.beq, MV.beqs_eq xs, and_assoc]
  | .exn _ _ xs, b => by cases b <;> simp [MV.beq, MV.beqs_eq xs, and_assoc]
theorem MV.beqs_eq : ∀ (a b : List MV), MV.beqs a b = true ↔ a = b
  | [], b => by cases b <;> simp [MV.beqs]
  | x :: r, b => by cases b <;> simp [MV.beqs, MV.beq_eq x, MV.beqs_eq r]
end
instance : DecidableEq MV := fun a b => decidable_of_iff _ (MV.beq_eq a b)

/-- a mutable object -/
inductive MO where
  | lst (xs : List MV) | dct (ep : Nat) (ks vs : List MV) | ins (c : Str) (ns : List Str) (vs : List MV) | dead | lck (ks vs : List MV)
  deriving DecidableEq, Inhabited
abbrev Mem := List MO

inductive Res (α : Type) where
  | ok (a : α) (M : Mem) | ex (c : Str) (ns : List Str) (vs : List MV) (M : Mem) | err
def Res.bind {α β : Type} (r : Res α) (f : α → Mem → Res β) : Res β := match r with
  | .ok a M => f a M
  | .ex c ns vs M => .ex c ns vs M
  | .err => .err
def Res.of {α : Type} (o : Option α) (M : Mem) : Res α := match o with
  | some a => .ok a M
  | none => .err

/-! ### the syntax -/
inductive MB where
  | arg (i : Nat) | dfl (v : MV)
  deriving Inhabited, DecidableEq
/-- methods of built-in things -/
inductive BM where
  | append | extend | pop | popAt | insert | clear | get | getD | dpop | dclear | join | split
  deriving DecidableEq, Inhabited
mutual
inductive ME where
  | lit (v : MV)
  | glo (x : Str) (v : MV)
  | var (i : Nat)
  | bin (op : Operator) (a b : ME)
  | neg (a : ME)
  | notE (a : ME)
  | andE (a b : ME)
  | orE (a b : ME)
  | cmp (op : CmpOp) (a b : ME)
  | cmp2 (o p : CmpOp) (a b c : ME)
  | ifE (t a b : ME)
  | tupE (es : List MA)
  | lstE (es : List MA)
  | dctE (ps : List MP)
  | dctS (ps : List MP)
  | box (e : ME)
  | idx (a b : ME)
  | slc (a : ME) (lo hi : Option ME)
  | slc3 (a : ME) (st : Int)
  | fld (a : ME) (f : Str)
  | call (f : Str) (args : List ME)
  | callK (f : Str) (args : List ME) (how : List MB)
  | meth (o : ME) (m : Str) (args : List ME)
  | bm (o : ME) (k : BM) (args : List ME)
  | methK (o : ME) (m : Str) (args : List ME) (how : List MB)
  | new (c : Str) (args : List ME)
  | newK (c : Str) (args : List ME) (how : List MB)
  | bi (b : Str) (args : List ME)
  | lcomp (elt : ME) (tg : MT) (it : MI) (cs : List ME)
  | lcomp2 (elt : ME) (tg : MT) (it : MI) (cs : List ME) (tg2 : MT) (it2 : MI) (cs2 : List ME)
  | dcomp (k v : ME) (tg : MT) (it : MI) (cs : List ME)
  | isinst (a : ME) (t : String)
  | isown (a : ME) (c : Str)
  | fstr (parts : List ME)
  | frzE (e : ME)
  | lock (i : Nat) (e : ME)
  | lenO (e : ME)
  | lvals (e : ME)
  | cmpp (op : CmpOp) (a b : ME)
  | xfld (a : ME) (f : Str)
  | xis (a : ME) (c : Str)
  | xisV (a : ME)
  | newX (c : Str) (args : List ME) (how : List MB)
  | lrng (a b : ME)
  | bad
/-- a part of a dict display -/
inductive MP where
  | kv (k v : ME) | star (m : ME)
/-- a part of a display -/
inductive MA where
  | e (m : ME) | star (m : ME)
/-- a target -/
inductive MT where
  | var (i : Nat) | tup (ts : List MT) | fld (o : ME) (f : Str) | idx (o i : ME)
/-- what a loop walks -/
inductive MI where
  | val (e : ME) | range (es : List ME) | zip (a b : ME) | enum (a : ME) | items (e : ME) | values (e : ME)
end
instance : Inhabited ME := ⟨.lit .non⟩
mutual
inductive MS where
  | asg (t : MT) (e : ME)
  | aug (t : MT) (op : Operator) (e : ME)
  | expr (e : ME)
  | ret (e : ME)
  | ifS (t : ME) (a b : List MS)
  | whileS (t : ME) (a : List MS)
  | forS (t : MT) (it : MI) (a : List MS)
  | raise (c : Str) (args : List ME)
  | tryS (a : List MS) (hs : List MH)
  | pass | brk | cnt | bad
inductive MH where
  | mk (cs : List Str) (i : Option Nat) (a : List MS)
end
instance : Inhabited MS := ⟨.pass⟩

/-- what becomes of what a function made: nothing, it is frozen or dropped, frozen or dropped but the object that it returns -/
inductive Rg where
  | no | frz | keep
  deriving DecidableEq, Inhabited
structure FDef where
  nm : Str
  ps : List Str
  N : List Str
  body : List MS
  region : Rg := .no
  deriving Inhabited
structure CDef where
  nm : Str
  meths : List (Str × Str) := []
  props : List (Str × Str) := []
  flds : List Str := []
  imm : Bool := true
  deriving Inhabited
/-- an exception class: its fields in the order of its arguments -/
structure XDef where
  nm : Str
  ns : List Str
  deriving Inhabited
structure MProg where
  fns : List FDef
  cls : List CDef
  excs : List XDef
  /-- the base of the exceptions here -/
  base : Str
  deriving Inhabited
end Mi
/-! Mini, part B: what the fragment means. -/
set_option autoImplicit false
set_option linter.all false
namespace Mi
open PySem PySem.W

/-! ### values -/
mutual
/-- what an immutable value is as data -/
def pd : MV → Option PyData
  | .non => some .none
  | .bl b => some (.bool b)
  | .int i => some (.int i)
  | .str s => some (.str s)
  | .tup xs => (pds xs).map .tuple
  | .fls xs => (pds xs).map .list
  | _ => none
def pds : List MV → Option (List PyData)
  | [] => some []
  | x :: r => match pd x, pds r with
    | some k, some ks => some (k :: ks)
    | _, _ => none
end
mutual
def frzW (d : Nat → Option MV) : MV → Option MV
  | .tup xs => (frzWs d xs).map .tup
  | .fls xs => (frzWs d xs).map .fls
  | .scr xs => (frzWs d xs).map .scr
  | .fdc ks vs => match frzWs d ks, frzWs d vs with
    | some a, some b => some (.fdc a b)
    | _, _ => none
  | .obj c ns vs => (frzWs d vs).map (.obj c ns)
  | .exn c ns vs => (frzWs d vs).map (.exn c ns)
  | .ref a => d a
  | .non => some .non
  | .bl b => some (.bl b)
  | .int i => some (.int i)
  | .str s => some (.str s)
def frzWs (d : Nat → Option MV) : List MV → Option (List MV)
  | [] => some []
  | x :: r => match frzW d x, frzWs d r with
    | some k, some ks => some (k :: ks)
    | _, _ => none
end
/-- an object, frozen -/
def frzO (fs : List MV → Option (List MV)) : MO → Option MV
  | .lst xs => (fs xs).map .fls
  | .dct _ ks vs => match fs ks, fs vs with
    | some a, some b => some (.fdc a b)
    | _, _ => none
  | .ins c ns vs => (fs vs).map (.obj c ns)
  | .dead => none
  | .lck _ _ => none
/-- the object at a, all that was made from n on frozen -/
def frzR (n : Nat) (M : Mem) : Nat → Nat → Option MV
  | 0, _ => none
  | k + 1, a => if a < n then some (.ref a) else match M[a]? with
    | some o => frzO (frzWs (frzR n M k)) o
    | none => none
def DEEP : Nat := 12
def frz (n : Nat) (M : Mem) (v : MV) : Option MV := frzW (frzR n M DEEP) v
def frzs (n : Nat) (M : Mem) (vs : List MV) : Option (List MV) := frzWs (frzR n M DEEP) vs
mutual
/-- no object from n on is named -/
def low (n : Nat) : MV → Bool
  | .tup xs => lows n xs
  | .fls xs => lows n xs
  | .scr xs => lows n xs
  | .fdc ks vs => lows n ks && lows n vs
  | .obj _ _ vs => lows n vs
  | .exn _ _ vs => lows n vs
  | .ref a => decide (a < n)
  | .non => true
  | .bl _ => true
  | .int _ => true
  | .str _ => true
def lows (n : Nat) : List MV → Bool
  | [] => true
  | x :: r => low n x && lows n r
end
def lowO (n : Nat) : MO → Bool
  | .lst xs => lows n xs
  | .dct _ ks vs => lows n ks && lows n vs
  | .ins _ _ vs => lows n vs
  | .dead => true
  | .lck ks vs => lows n ks && lows n vs
def lowM (n : Nat) (M M' : Mem) : Bool := (List.range n).all fun i => (match M'[i]? with | some o => lowO n o | none => false) || decide (M'[i]? = M[i]?)
/-- a region's end: what was made in it is frozen or dropped -/
def finR (n : Nat) (M : Mem) : Res MV → Res MV
  | .ok v M' => if lowM n M M' then Res.of (frz n M' v) (M'.take n) else .err
  | .ex c ns vs M' => if lowM n M M' then (match frzs n M' vs with
    | some ws => .ex c ns ws (M'.take n)
    | none => .err) else .err
  | .err => .err

/-- .. but a new object that is returned stays one -/
def finK (n : Nat) (M : Mem) (r : Res MV) : Res MV := match r with
  | .ok (.ref a) M' => if n ≤ a then (if lowM n M M' then (match M'[a]? with
      | some (.lst xs) => (match frzs n (M'.set a .dead) xs with
        | some ys => .ok (.ref n) (M'.take n ++ [.lst ys])
        | none => .err)
      | some (.dct ep ks vs) => (match frzs n (M'.set a .dead) vs with
        | some ys => .ok (.ref n) (M'.take n ++ [.dct ep ks ys])
        | none => .err)
      | _ => .err) else .err) else finR n M r
  | r => finR n M r

/-- data, mutable things read as they are -/
def dat (M : Mem) (v : MV) : Option PyData := (frz 0 M v).bind pd
def dats (M : Mem) (vs : List MV) : Option (List PyData) := (frzs 0 M vs).bind pds

def LINE : Nat := 16777216

/-! ### dicts -/
/-- what can stand in a dict as a key here -/
def isK : MV → Bool
  | .int _ => true
  | .str _ => true
  | _ => false
def dfind : List MV → MV → Option Nat
  | [], _ => none
  | x :: r, k => if x = k then some 0 else (dfind r k).map (· + 1)
def dget (ks vs : List MV) (k : MV) : Option MV := match dfind ks k with
  | some i => vs[i]?
  | none => none
/-- what a dict is: keys, values; a list, a tuple -/
inductive VW where
  | seq (xs : List MV) | dict (ks vs : List MV) | text (s : Str) | inst (c : Str) | other
def view (M : Mem) : MV → VW
  | .tup xs => .seq xs
  | .fls xs => .seq xs
  | .scr xs => .seq xs
  | .fdc ks vs => .dict ks vs
  | .str s => .text s
  | .obj c _ _ => .inst c
  | .ref a => match M[a]? with
    | some (.lst xs) => .seq xs
    | some (.dct _ ks vs) => .dict ks vs
    | some (.lck ks vs) => .dict ks vs
    | some (.ins c _ _) => .inst c
    | _ => .other
  | _ => .other
def seq? (M : Mem) (v : MV) : Option (List MV) := match view M v with
  | .seq xs => some xs
  | _ => none
/-- a list, not the script -/
def lst? (M : Mem) (v : MV) : Option (List MV) := match v with
  | .fls xs => some xs
  | .ref a => (match M[a]? with
    | some (.lst xs) => some xs
    | _ => none)
  | _ => none
def dict? (M : Mem) (v : MV) : Option (List MV × List MV) := match view M v with
  | .dict ks vs => some (ks, vs)
  | _ => none

/-! ### equality, order, truth -/
/-- the data of a value (no dict in it); a mutable list is read as it stands -/
def dat1 (M : Mem) (v : MV) : Option PyData := match v with
  | .ref a => (match M[a]? with
    | some (.lst xs) => (pds xs).map .list
    | _ => none)
  | v => pd v
def flatV : MV → Bool
  | .int _ => true
  | .str _ => true
  | .bl _ => true
  | .non => true
  | _ => false
def plV : MV → Bool
  | .int _ => true
  | .str _ => true
  | .non => true
  | _ => false
/-- two dicts of plain values -/
def eqD (ks vs ls ws : List MV) : Option Bool := if vs.all plV && ws.all plV then some (decide (ks.length = ls.length) && (ks.zip vs).all fun p => decide (dget ls ws p.1 = some p.2)) else none
def bothStr : PyData → PyData → Bool
  | .str _, .str _ => true
  | _, _ => false
def eqM (M : Mem) (v w : MV) : Option Bool := match dat1 M v, dat1 M w with
  | some d, some e => if (SeqAt.shaped d && SeqAt.shaped e) || bothStr d e then some (PyData.eqv d e) else none
  | _, _ => (match view M v, view M w with
    | .dict ks vs, .dict ls ws => eqD ks vs ls ws
    | _, _ => none)
def cmpM (op : CmpOp) (v w : MV) : Option Bool := match v, w with
  | .str i, .str j => (match op with
    | .Lt => some (decide (i.cps.toList < j.cps.toList))
    | .Gt => some (decide (j.cps.toList < i.cps.toList))
    | .LtE => some (!decide (j.cps.toList < i.cps.toList))
    | .GtE => some (!decide (i.cps.toList < j.cps.toList))
    | _ => none)
  | _, _ => none
def truth (M : Mem) (v : MV) : Option Bool := match v with
  | .non => some false
  | .bl b => some b
  | .int i => some (i != 0)
  | .str s => if s.length ≤ LINE then some (s.length != 0) else none
  | .tup xs => some (!xs.isEmpty)
  | .fls xs => some (!xs.isEmpty)
  | .ref a => (match M[a]? with
    | some (.lst xs) => some (!xs.isEmpty)
    | some (.dct _ ks _) => some (!ks.isEmpty)
    | _ => none)
  | _ => none
def inSeq (M : Mem) (x v : MV) : Option Bool := match dat1 M x, dat1 M v with
  | some d, some (.list ds) => if SeqAt.shaped d && SeqAt.shaped (.list ds) then some (ds.any fun z => PyData.eqv z d) else none
  | some d, some (.tuple ds) => if SeqAt.shaped d && SeqAt.shaped (.tuple ds) then some (ds.any fun z => PyData.eqv z d) else none
  | _, _ => none
def inStr (i j : Str) : Bool := !(Builtin.Str.occurrences j i 0 j.length 1).isEmpty

def inM (M : Mem) (v w : MV) : Option Bool := match view M w with
  | .dict ks _ => if isK v then some (dfind ks v).isSome else none
  | .seq _ => inSeq M v w
  | .text s => (match v with
    | .str i => some (inStr i s)
    | _ => none)
  | _ => none
/-- a comparison without own methods -/
def cmpP (M : Mem) (op : CmpOp) (v w : MV) : Option Bool := match op with
  | .Eq => eqM M v w
  | .NotEq => (eqM M v w).map not
  | .Is => (match w with
    | .non => some (decide (v = .non))
    | .bl b => (match v with
      | .bl a => some (decide (a = b))
      | _ => none)
    | _ => none)
  | .IsNot => (match w with
    | .non => some (!decide (v = .non))
    | .bl b => (match v with
      | .bl a => some (!decide (a = b))
      | _ => none)
    | _ => none)
  | .In => inM M v w
  | .NotIn => (inM M v w).map not
  | op => (match v, w with
    | .int i, .int j => (match op with
      | .Lt => some (decide (i < j))
      | .LtE => some (decide (i ≤ j))
      | .Gt => some (decide (j < i))
      | .GtE => some (decide (j ≤ i))
      | _ => none)
    | v, w => cmpM op v w)

/-! ### numbers -/
def pow2ok (i j : Int) : Bool := decide (0 ≤ j) && decide ((Builtin.Int.intBits i : Int) * j ≤ 134217728)
def mulOk (i j : Int) : Bool := decide ((Builtin.Int.intBits i : Int) + (Builtin.Int.intBits j : Int) ≤ 134217728)
def divOk (j : Int) : Bool := decide (j ≠ 0) && decide (j.natAbs < 1073741824)
def binI (op : Operator) (i j : Int) : Option Int := match op with
  | .Add => some (i + j)
  | .Sub => some (i - j)
  | .Mult => if mulOk i j then some (i * j) else none
  | .FloorDiv => if divOk j then some (i.fdiv j) else none
  | .Mod => if j = 0 then none else some (i.fmod j)
  | .Pow => if pow2ok i j then some (i ^ j.toNat) else none
  | _ => none
def binM (M : Mem) (op : Operator) (v w : MV) : Option MV := match v, w with
  | .int i, .int j => (binI op i j).map .int
  | .str x, .str y => if op = .Add ∧ x.length + y.length ≤ LINE then some (.str (x ++ y)) else none
  | .tup xs, .tup ys => if op = .Add ∧ xs ≠ [] ∧ xs.length + ys.length ≤ LINE then some (.tup (xs ++ ys)) else none
  | v, w => match lst? M v, lst? M w with
    | some xs, some ys => if op = .Add ∧ xs.length + ys.length ≤ LINE then some (.fls (xs ++ ys)) else none
    | _, _ => none
def ixN (n : Nat) (i : Int) : Option Nat := if 0 ≤ i then (if i < n then some i.toNat else none) else if -(n : Int) ≤ i then some (i + n).toNat else none
def idxM (M : Mem) (v w : MV) : Option MV := match view M v with
  | .seq xs => (match w with
    | .int i => (ixN xs.length i).bind fun j => xs[j]?
    | _ => none)
  | .dict ks vs => if isK w then dget ks vs w else none
  | .text s => (match w with
    | .int i => if s.length ≤ LINE then (ixN s.length i).bind fun j => s.cps[j]?.map fun c => .str ⟨#[c]⟩ else none
    | _ => none)
  | _ => none
def sIx (n d : Nat) : Option Int → Nat
  | none => d
  | some i => if i < 0 then (i + n).toNat else min i.toNat n
def cutL {α : Type} (xs : List α) (lo hi : Option Int) : List α := (xs.drop (sIx xs.length 0 lo)).take (sIx xs.length xs.length hi - sIx xs.length 0 lo)
def slcM (M : Mem) (v : MV) (lo hi : Option Int) : Option MV := match v with
  | .str s => if s.length ≤ LINE then some (.str ⟨(cutL s.cps.toList lo hi).toArray⟩) else none
  | .tup xs => some (.tup (cutL xs lo hi))
  | v => match seq? M v with
    | some xs => some (.fls (cutL xs lo hi))
    | none => none
def optI : Option MV → Option (Option Int)
  | none => some none
  | some (.int i) => some (some i)
  | _ => none

/-! ### the built-in functions -/
def intsV : List MV → Option (List Int)
  | [] => some []
  | .int i :: r => (intsV r).map (i :: ·)
  | _ => none
def blsV : List MV → Option (List Bool)
  | [] => some []
  | .bl i :: r => (blsV r).map (i :: ·)
  | _ => none
def strsV : List MV → Option (List Str)
  | [] => some []
  | .str i :: r => (strsV r).map (i :: ·)
  | _ => none
/-- the order of texts -/
def leS (a b : Str) : Bool := !Spec.ltCps b.cps.toList a.cps.toList
def sortV (xs : List MV) : Option (List MV) := match strsV xs with
  | some l => if l.length < 64 then some ((l.mergeSort leS).map .str) else none
  | none => none
/-- what list(v), a loop, and the like take out of v -/
def items (M : Mem) (v : MV) : Option (List MV) := match view M v with
  | .seq xs => some xs
  | .dict ks _ => some ks
  | .text s => some (s.cps.toList.map fun c => .str ⟨#[c]⟩)
  | _ => none
def pairs2 : List MV → Option (List MV × List MV)
  | [] => some ([], [])
  | .tup [k, v] :: r => (pairs2 r).map fun p => (k :: p.1, v :: p.2)
  | _ => none
def dupd : List MV → List MV → MV → MV → List MV
  | x :: ks, v :: vs, k, w => (if x = k then w else v) :: dupd ks vs k w
  | _, _, _, _ => []
/-- the keys and the values with one more -/
def dput1 (ks vs : List MV) (k v : MV) : List MV × List MV := if (dfind ks k).isSome then (ks, dupd ks vs k v) else (ks ++ [k], vs ++ [v])
def dput (ks vs : List MV) (k v : MV) : Option (List MV × List MV) := if isK k then some (dput1 ks vs k v) else none
def dputs : List MV → List MV → List MV → List MV → Option (List MV × List MV)
  | ks, vs, k :: r, v :: s => match dput ks vs k v with
    | some (a, b) => dputs a b r s
    | none => none
  | ks, vs, [], [] => some (ks, vs)
  | _, _, _, _ => none
/-- the name of a value's built-in type -/
def tyNm (M : Mem) : MV → Option String
  | .non => some "NoneType"
  | .bl _ => some "bool"
  | .int _ => some "int"
  | .str _ => some "str"
  | .tup _ => some "tuple"
  | .fls _ => some "list"
  | .fdc _ _ => some "dict"
  | .ref a => (match M[a]? with
    | some (.lst _) => some "list"
    | some (.dct _ _ _) => some "dict"
    | some (.lck _ _) => some "dict"
    | _ => none)
  | _ => none
/-- isinstance(v, t), t a built-in type -/
def isT (t : String) (M : Mem) (v : MV) : Option Bool := (tyNm M v).map fun n => n == t || (n == "bool" && t == "int")
def biLen (M : Mem) : List MV → Option MV
  | [v] => (match view M v with
    | .seq xs => some (.int xs.length)
    | .dict ks _ => some (.int ks.length)
    | .text s => if s.length ≤ LINE then some (.int s.length) else none
    | _ => none)
  | _ => none
def biAll (M : Mem) : List MV → Option MV
  | [.fls xs] => (blsV xs).map fun l => .bl (l.all id)
  | _ => none
def biAny (M : Mem) : List MV → Option MV
  | [.fls xs] => (blsV xs).map fun l => .bl (l.any id)
  | _ => none
def biSum (M : Mem) : List MV → Option MV
  | [.fls xs] => (intsV xs).map fun l => .int l.sum
  | _ => none
def biSorted (M : Mem) : List MV → Option MV
  | [v] => (match lst? M v with
    | some xs => (sortV xs).map .fls
    | none => (match view M v with
      | .dict ks _ => (sortV ks).map .fls
      | _ => none))
  | _ => none
def biList (M : Mem) : List MV → Option MV
  | [v] => (match view M v with
    | .seq xs => some (.fls xs)
    | .dict ks _ => some (.fls ks)
    | _ => none)
  | _ => none
def biDict (M : Mem) : List MV → Option MV
  | [v] => (match view M v with
    | .dict ks ws => some (.fdc ks ws)
    | _ => (match lst? M v with
      | some ys => (pairs2 ys).bind fun p => (dputs [] [] p.1 p.2).map fun q => .fdc q.1 q.2
      | none => none))
  | _ => none
mutual
/-- what a frozen value is as data, dicts too -/
def pdd : MV → Option PyData
  | .non => some .none
  | .bl b => some (.bool b)
  | .int i => some (.int i)
  | .str s => some (.str s)
  | .tup xs => (pdds xs).map .tuple
  | .fls xs => (pdds xs).map .list
  | .fdc ks vs => match pdds ks, pdds vs with
    | some a, some b => if a.length = b.length then some (.dict (a.zip b)) else none
    | _, _ => none
  | _ => none
def pdds : List MV → Option (List PyData)
  | [] => some []
  | x :: r => match pdd x, pdds r with
    | some k, some ks => some (k :: ks)
    | _, _ => none
end
/-- the data that a value is read as -/
def datD (M : Mem) (v : MV) : Option PyData := (frz 0 M v).bind pdd
def biRepr (M : Mem) : List MV → Option MV
  | [v] => (datD M v).bind fun d => if d.showable && decide (d.depth ≤ 40) && decide (d.shown.length ≤ LINE) then some (.str d.shown) else none
  | _ => none
/-- built-in functions of values, by name -/
def biM (M : Mem) (b : Str) (vs : List MV) : Option MV :=
  if b = "len" then biLen M vs
  else if b = "all" then biAll M vs
  else if b = "any" then biAny M vs
  else if b = "sum" then biSum M vs
  else if b = "sorted" then biSorted M vs
  else if b = "list" then biList M vs
  else if b = "dict" then biDict M vs
  else if b = "repr" then biRepr M vs
  else none

/-! ### methods of built-in things -/
def wr (M : Mem) (a : Nat) (o : MO) : Mem := M.set a o
def bmAppend (M : Mem) (a : Nat) (xs : List MV) : List MV → Res MV
  | [x] => if xs.length < LINE then .ok .non (wr M a (.lst (xs ++ [x]))) else .err
  | _ => .err
def bmExtend (M : Mem) (a : Nat) (xs : List MV) : List MV → Res MV
  | [w] => (match lst? M w with
    | some ys => if xs.length + ys.length ≤ LINE then .ok .non (wr M a (.lst (xs ++ ys))) else .err
    | none => .err)
  | _ => .err
def bmPop (M : Mem) (a : Nat) (xs : List MV) : List MV → Res MV
  | [] => (match xs[xs.length - 1]? with
    | some y => .ok y (wr M a (.lst xs.dropLast))
    | none => .err)
  | _ => .err
def bmPopAt (M : Mem) (a : Nat) (xs : List MV) : List MV → Res MV
  | [.int i] => if xs.length ≤ LINE then (match ixN xs.length i with
    | some k => (match xs[k]? with
      | some y => .ok y (wr M a (.lst (xs.eraseIdx k)))
      | none => .err)
    | none => .err) else .err
  | _ => .err
def bmInsert (M : Mem) (a : Nat) (xs : List MV) : List MV → Res MV
  | [.int i, x] => if 0 ≤ i ∧ i ≤ xs.length ∧ xs.length < LINE then .ok .non (wr M a (.lst (xs.take i.toNat ++ x :: xs.drop i.toNat))) else .err
  | _ => .err
def bmClear (M : Mem) (a : Nat) : List MV → Res MV
  | [] => .ok .non (wr M a (.lst []))
  | _ => .err
def bmGet (M : Mem) (ks ws : List MV) : List MV → Res MV
  | [k] => if isK k then .ok ((dget ks ws k).getD .non) M else .err
  | _ => .err
def bmGetD (M : Mem) (ks ws : List MV) : List MV → Res MV
  | [k, d] => if isK k then .ok ((dget ks ws k).getD d) M else .err
  | _ => .err
def bmDpop (M : Mem) (a : Nat) (ep : Nat) (ks ws : List MV) : List MV → Res MV
  | [k] => (match dfind ks k with
    | some i => (match ws[i]? with
      | some w => .ok w (wr M a (.dct (ep + 1) (ks.eraseIdx i) (ws.eraseIdx i)))
      | none => .err)
    | none => .err)
  | _ => .err
def bmJoin (M : Mem) (s : Str) : List MV → Res MV
  | [w] => (match (seq? M w).bind strsV with
    | some l => if (l.map (·.length)).sum + l.length * s.length ≤ LINE then .ok (.str (Txt.join s l)) M else .err
    | none => .err)
  | _ => .err
def bmSplit (M : Mem) (s : Str) : List MV → Res MV
  | [.str t] => if t.length ≠ 0 ∧ s.length + 2 ≤ LINE then .ok (.fls ((Txt.split s t).map .str)) M else .err
  | _ => .err
def lstAt (M : Mem) : MV → Option (Nat × List MV)
  | .ref a => (match M[a]? with
    | some (.lst xs) => some (a, xs)
    | _ => none)
  | _ => none
def dctAt (M : Mem) : MV → Option (Nat × Nat × List MV × List MV)
  | .ref a => (match M[a]? with
    | some (.dct ep ks vs) => some (a, ep, ks, vs)
    | _ => none)
  | _ => none
def onL (M : Mem) (v : MV) (f : Nat → List MV → Res MV) : Res MV := match lstAt M v with
  | some (a, xs) => f a xs
  | none => .err
/-- whether the receiver is of the kind that the method wants -/
def bmOk (M : Mem) (v : MV) (k : BM) : Bool := match k with
  | .get => (dict? M v).isSome
  | .getD => (dict? M v).isSome
  | .dpop => (dctAt M v).isSome
  | .dclear => (dctAt M v).isSome
  | .join => (match v with
    | .str _ => true
    | _ => false)
  | .split => (match v with
    | .str _ => true
    | _ => false)
  | _ => (lstAt M v).isSome
def bmM (M : Mem) (v : MV) (k : BM) (vs : List MV) : Res MV := match k with
  | .append => onL M v fun a xs => bmAppend M a xs vs
  | .extend => onL M v fun a xs => bmExtend M a xs vs
  | .pop => onL M v fun a xs => bmPop M a xs vs
  | .popAt => onL M v fun a xs => bmPopAt M a xs vs
  | .insert => onL M v fun a xs => bmInsert M a xs vs
  | .clear => onL M v fun a _ => bmClear M a vs
  | .get => (match dict? M v with
    | some (ks, ws) => bmGet M ks ws vs
    | none => .err)
  | .getD => (match dict? M v with
    | some (ks, ws) => bmGetD M ks ws vs
    | none => .err)
  | .dpop => (match dctAt M v with
    | some (a, ep, ks, ws) => bmDpop M a ep ks ws vs
    | none => .err)
  | .dclear => (match dctAt M v with
    | some (a, ep, _, _) => (match vs with
      | [] => .ok .non (wr M a (.dct (ep + 1) [] []))
      | _ => .err)
    | none => .err)
  | .join => (match v with
    | .str s => bmJoin M s vs
    | _ => .err)
  | .split => (match v with
    | .str s => bmSplit M s vs
    | _ => .err)
/-- o[i] = v -/
def setM (M : Mem) (o i v : MV) : Option Mem := match o with
  | .ref a => (match M[a]? with
    | some (.lst xs) => (match i with
      | .int j => (ixN xs.length j).map fun k => wr M a (.lst (xs.set k v))
      | _ => none)
    | some (.dct ep ks vs) => if isK i ∧ ks.length < LINE then some (wr M a (.dct (ep + 1) (dput1 ks vs i v).1 (dput1 ks vs i v).2)) else none
    | _ => none)
  | _ => none
def fidx : List Str → Str → Option Nat
  | [], _ => none
  | x :: r, f => if x = f then some 0 else (fidx r f).map (· + 1)
def fldV (ns : List Str) (vs : List MV) (f : Str) : Option MV := match fidx ns f with
  | some i => vs[i]?
  | none => none
/-- the class and the fields of an instance, an exception -/
def fields (M : Mem) : MV → Option (Str × List Str × List MV)
  | .obj c ns vs => some (c, ns, vs)
  | .ref a => match M[a]? with
    | some (.ins c ns vs) => some (c, ns, vs)
    | _ => none
  | _ => none
/-- o.f = v -/
def fldSet (M : Mem) (o : MV) (f : Str) (v : MV) : Option Mem := match o with
  | .ref a => (match M[a]? with
    | some (.ins c ns vs) => if ns.length < 1000 then (match fidx ns f with
      | some i => some (wr M a (.ins c ns (vs.set i v)))
      | none => some (wr M a (.ins c (ns ++ [f]) (vs ++ [v])))) else none
    | _ => none)
  | _ => none
/-- a new object of a fresh immutable one -/
def boxM (v : MV) (M : Mem) : Res MV := match v with
  | .fls xs => .ok (.ref M.length) (M ++ [.lst xs])
  | .fdc ks vs => .ok (.ref M.length) (M ++ [.dct 0 ks vs])
  | _ => .err
end Mi
/-! Mini, part C: the interpreter. cal: how a function is called (by its name); W: fuel of while loops. -/
set_option autoImplicit false
set_option linter.all false
namespace Mi
open PySem PySem.W

abbrev Env := List (Option MV)
abbrev Cal := Str → List MV → Mem → Res MV
inductive Out where
  | nx (ρ : Env) (M : Mem) | rt (v : MV) (M : Mem) | bk (ρ : Env) (M : Mem) | ct (ρ : Env) (M : Mem)
  | ex (c : Str) (ns : List Str) (vs : List MV) (ρ : Env) (M : Mem) | err
/-- the source of a walk: its items, and the mutable object that must stay as it is -/
structure Src where
  items : List MV
  guard : Option (Nat × MO) := none
def Src.ok (g : Option (Nat × MO)) (M : Mem) : Bool := match g with
  | none => true
  | some (a, o) => decide (M[a]? = some o)
def guardOf (M : Mem) (v : MV) : Option (Nat × MO) := match v with
  | .ref a => (M[a]?).map fun o => (a, o)
  | _ => none
def bindArgs (vs : List MV) : List MB → Option (List MV)
  | [] => some []
  | .arg i :: r => match vs[i]?, bindArgs vs r with
    | some v, some ws => some (v :: ws)
    | _, _ => none
  | .dfl v :: r => (bindArgs vs r).map (v :: ·)
def clsOf (P : MProg) (c : Str) : Option CDef := P.cls.find? fun d => decide (d.nm = c)
def excOf (P : MProg) (c : Str) : Option XDef := P.excs.find? fun d => decide (d.nm = c)
/-- whether an exception of class c is caught by a clause of class d -/
def catches (P : MProg) (d c : Str) : Bool := decide (d = c) || decide (d = P.base)
def rngV (lo : Int) (n : Nat) : List MV := (List.range n).map fun (k : Nat) => .int (lo + k)
def inR (i : Int) : Bool := decide (-(2 ^ 62) ≤ i) && decide (i < 2 ^ 62)
def rangeOf : List MV → Option (List MV)
  | [.int n] => if inR n then some (rngV 0 n.toNat) else none
  | [.int m, .int n] => if inR m && inR n then some (rngV m (n - m).toNat) else none
  | _ => none
def signs (s : Str) : List MV := s.cps.toList.map fun c => .str ⟨#[c]⟩
/-- the items of a value that is walked -/
def srcV (M : Mem) (v : MV) : Option Src := match v with
  | .tup xs => some ⟨xs, none⟩
  | .fls xs => some ⟨xs, none⟩
  | .scr xs => some ⟨xs, none⟩
  | .str s => some ⟨signs s, none⟩
  | .fdc ks _ => some ⟨ks, none⟩
  | .ref a => (match M[a]? with
    | some (.lst xs) => some ⟨xs, some (a, .lst xs)⟩
    | some (.lck ks vs) => some ⟨ks, some (a, .lck ks vs)⟩
    | _ => none)
  | _ => none
def enumFrom : Nat → List MV → List MV
  | _, [] => []
  | n, x :: r => .tup [.int n, x] :: enumFrom (n + 1) r
/-- an own class's method; the name must not be a field of the instance -/
def methOf (P : MProg) (M : Mem) (v : MV) (m : Str) : Option Str := match fields M v with
  | some (c, ns, _) => if ns.contains m then none else (clsOf P c).bind fun d => d.meths.lookup m
  | none => none
/-- the name of an own special method; none: it is no instance -/
def special (P : MProg) (M : Mem) (v : MV) (m : Str) : Option Str := match fields M v with
  | some (c, _, _) => (clsOf P c).bind fun d => d.meths.lookup m
  | none => none
/-- the names of a target -/
def tgVar : MT → List Nat
  | .var i => [i]
  | _ => []
def tgVarL : List MT → List Nat
  | [] => []
  | t :: r => tgVar t ++ tgVarL r
def tgVars : MT → List Nat
  | .var i => [i]
  | .tup ts => tgVarL ts
  | _ => []
/-- a comprehension's own names have no value yet -/
def wipeE (ρ : Env) : List Nat → Env
  | [] => ρ
  | v :: vs => (wipeE ρ vs).set v none
/-- what a star in a display gives -/
def starV (M : Mem) (v : MV) : Option (List MV) := match view M v with
  | .seq xs => some xs
  | .dict ks _ => some ks
  | _ => none
/-- an exception as a value -/
def mkExn (P : MProg) (c : Str) (ws : List MV) (M : Mem) : Res MV := match excOf P c with
  | some d => if d.ns.length = ws.length then .ok (.exn c d.ns ws) M else .err
  | none => .err
section
variable (P : MProg) (cal : Cal) (W : Nat)
def noEx {α : Type} : Res α → Res α
  | .ex _ _ _ _ => .err
  | r => r
/-- whether the value's class has such a field -/
def fldOk (P : MProg) (M : Mem) (x : MV) (f : Str) : Bool := match fields M x with
  | some (cn, _, _) => (match clsOf P cn with
    | some d => d.flds.contains f
    | none => false)
  | none => false
def getFld (o : MV) (f : Str) (M : Mem) : Res MV := match fields M o with
  | some (c, ns, vs) => (match clsOf P c with
    | some d => (match d.props.lookup f with
      | some g => noEx (cal g [o] M)
      | none => if d.flds.contains f then Res.of (fldV ns vs f) M else .err)
    | none => .err)
  | none => .err
def make (c : Str) (vs : List MV) (M : Mem) : Res MV := match clsOf P c with
  | some d => (match d.meths.lookup ("__init__" : Str) with
    | some f =>
      let r := (cal f (.ref M.length :: vs) (M ++ [.ins c [] []])).bind fun v M' => if v = .non then .ok (.ref M.length) M' else .err
      if d.imm then finR M.length M r else r
    | none => .err)
  | none => .err
def boolR (n : Bool) (r : MV) (M : Mem) : Res MV := match r with
  | .bl b => .ok (.bl (n ^^ b)) M
  | _ => .err
def compare (op : CmpOp) (v w : MV) (M : Mem) : Res MV := match op with
  | .Eq => (match special P M v "__eq__" with
    | some f => if (fields M w).map (·.1) = (fields M v).map (·.1) ∨ (tyNm M w).isSome then (noEx (cal f [v, w] M)).bind (boolR false) else .err
    | none => Res.of ((cmpP M op v w).map .bl) M)
  | .NotEq => (match special P M v "__eq__" with
    | some f => if (fields M w).map (·.1) = (fields M v).map (·.1) then (noEx (cal f [v, w] M)).bind (boolR true) else .err
    | none => Res.of ((cmpP M op v w).map .bl) M)
  | .In => (match special P M w "__contains__" with
    | some f => (noEx (cal f [w, v] M)).bind (boolR false)
    | none => Res.of ((cmpP M op v w).map .bl) M)
  | .NotIn => (match special P M w "__contains__" with
    | some f => (noEx (cal f [w, v] M)).bind (boolR true)
    | none => Res.of ((cmpP M op v w).map .bl) M)
  | op => Res.of ((cmpP M op v w).map .bl) M
def builtin (b : Str) (vs : List MV) (M : Mem) : Res MV := Res.of (biM M b vs) M
/-- a comprehension's items -/
def compL (body : MV → Mem → Res (Option MV)) (g : Option (Nat × MO)) : List MV → Mem → Res (List MV)
  | [], M => if Src.ok g M then .ok [] M else .err
  | x :: r, M => if Src.ok g M then (match body x M with
      | .ok y M1 => (match compL body g r M1 with
        | .ok ys M2 => .ok (match y with
          | some y => y :: ys
          | none => ys) M2
        | _ => .err)
      | _ => .err) else .err
/-- .. of two clauses: each item gives several -/
def compL2 (body : MV → Mem → Res (List MV)) (g : Option (Nat × MO)) : List MV → Mem → Res (List MV)
  | [], M => if Src.ok g M then .ok [] M else .err
  | x :: r, M => if Src.ok g M then (match body x M with
      | .ok y M1 => (match compL2 body g r M1 with
        | .ok ys M2 => .ok (y ++ ys) M2
        | _ => .err)
      | _ => .err) else .err
def forL (body : MV → Env → Mem → Out) (g : Option (Nat × MO)) : List MV → Env → Mem → Out
  | [], ρ, M => if Src.ok g M then .nx ρ M else .err
  | x :: r, ρ, M => if Src.ok g M then (match body x ρ M with
      | .nx ρ1 M1 => forL body g r ρ1 M1
      | .ct ρ1 M1 => forL body g r ρ1 M1
      | .bk ρ1 M1 => .nx ρ1 M1
      | .rt v M1 => .rt v M1
      | .ex c ns vs ρ1 M1 => .ex c ns vs ρ1 M1
      | .err => .err) else .err
def whileL (test : Env → Mem → Res Bool) (body : Env → Mem → Out) : Nat → Env → Mem → Out
  | 0, _, _ => .err
  | n + 1, ρ, M => match test ρ M with
    | .ok true M1 => (match body ρ M1 with
      | .nx ρ1 M2 => whileL test body n ρ1 M2
      | .ct ρ1 M2 => whileL test body n ρ1 M2
      | .bk ρ1 M2 => .nx ρ1 M2
      | .rt v M2 => .rt v M2
      | .ex c ns vs ρ1 M2 => .ex c ns vs ρ1 M2
      | .err => .err)
    | .ok false M1 => .nx ρ M1
    | .ex c ns vs M1 => .ex c ns vs ρ M1
    | .err => .err
mutual
def evalE : ME → Env → Mem → Res MV
  | .lit v, _, M => .ok v M
  | .glo _ v, _, M => .ok v M
  | .var i, ρ, M => (match ρ[i]? with
    | some (some v) => .ok v M
    | _ => .err)
  | .bin op a b, ρ, M => (evalE a ρ M).bind fun x M1 => (evalE b ρ M1).bind fun y M2 => Res.of (binM M2 op x y) M2
  | .neg a, ρ, M => (evalE a ρ M).bind fun x M1 => (match x with
    | .int i => .ok (.int (-i)) M1
    | _ => .err)
  | .notE a, ρ, M => (evalE a ρ M).bind fun x M1 => (match truth M1 x with
    | some b => .ok (.bl (!b)) M1
    | none => .err)
  | .andE a b, ρ, M => (evalE a ρ M).bind fun x M1 => (match truth M1 x with
    | some true => evalE b ρ M1
    | some false => .ok x M1
    | none => .err)
  | .orE a b, ρ, M => (evalE a ρ M).bind fun x M1 => (match truth M1 x with
    | some true => .ok x M1
    | some false => evalE b ρ M1
    | none => .err)
  | .cmp op a b, ρ, M => (evalE a ρ M).bind fun x M1 => (evalE b ρ M1).bind fun y M2 => noEx (compare P cal op x y M2)
  | .cmp2 o p a b c, ρ, M => (evalE a ρ M).bind fun x M1 => (evalE b ρ M1).bind fun y M2 => (noEx (compare P cal o x y M2)).bind fun r M3 => (match r with
    | .bl true => (evalE c ρ M3).bind fun z M4 => noEx (compare P cal p y z M4)
    | .bl false => .ok (.bl false) M3
    | _ => .err)
  | .ifE t a b, ρ, M => (evalE t ρ M).bind fun x M1 => (match truth M1 x with
    | some true => evalE a ρ M1
    | some false => evalE b ρ M1
    | none => .err)
  | .tupE es, ρ, M => (evalAs es ρ M).bind fun xs M1 => if xs.length ≤ LINE then .ok (.tup xs) M1 else .err
  | .lstE es, ρ, M => (evalAs es ρ M).bind fun xs M1 => if xs.length ≤ LINE then .ok (.fls xs) M1 else .err
  | .dctE ps, ρ, M => (noEx (evalPs ps ρ M)).bind fun p M1 => if p.1.length ≤ 15 then Res.of ((dputs [] [] p.1 p.2).map fun q => .fdc q.1 q.2) M1 else .err
  | .dctS ps, ρ, M => evalDs ps [] [] ρ M
  | .box e, ρ, M => (evalE e ρ M).bind boxM
  | .idx a b, ρ, M => (evalE a ρ M).bind fun x M1 => (evalE b ρ M1).bind fun y M2 => Res.of (idxM M2 x y) M2
  | .slc a lo hi, ρ, M => (evalE a ρ M).bind fun x M1 => (evalO lo ρ M1).bind fun l M2 => (evalO hi ρ M2).bind fun h M3 => (match optI l, optI h with
    | some l, some h => Res.of (slcM M3 x l h) M3
    | _, _ => .err)
  | .slc3 a st, ρ, M => (evalE a ρ M).bind fun x M1 => if st = -1 then (match seq? M1 x with
    | some xs => (match x with
      | .tup _ => .ok (.tup xs.reverse) M1
      | _ => .ok (.fls xs.reverse) M1)
    | none => .err) else .err
  | .fld a f, ρ, M => (evalE a ρ M).bind fun x M1 => getFld P cal x f M1
  | .call f as, ρ, M => (evalEs as ρ M).bind fun vs M1 => cal f vs M1
  | .callK f as how, ρ, M => (evalEs as ρ M).bind fun vs M1 => (match bindArgs vs how with
    | some ws => cal f ws M1
    | none => .err)
  | .meth o m as, ρ, M => (evalE o ρ M).bind fun x M1 => (match methOf P M1 x m with
    | some f => (evalEs as ρ M1).bind fun vs M2 => cal f (x :: vs) M2
    | none => .err)
  | .bm o k as, ρ, M => (evalE o ρ M).bind fun x M1 => if bmOk M1 x k then (evalEs as ρ M1).bind fun vs M2 => noEx (bmM M2 x k vs) else .err
  | .methK o m as how, ρ, M => (evalE o ρ M).bind fun x M1 => (match methOf P M1 x m with
    | some f => (evalEs as ρ M1).bind fun vs M2 => (match bindArgs vs how with
      | some ws => cal f (x :: ws) M2
      | none => .err)
    | none => .err)
  | .new c as, ρ, M => (evalEs as ρ M).bind fun vs M1 => make P cal c vs M1
  | .newK c as how, ρ, M => (evalEs as ρ M).bind fun vs M1 => (match bindArgs vs how with
    | some ws => make P cal c ws M1
    | none => .err)
  | .bi b as, ρ, M => (evalEs as ρ M).bind fun vs M1 => builtin b vs M1
  | .lcomp e tg it cs, ρ, M => (evalI it ρ M).bind fun s M1 =>
    (compL (fun x M => (asgT tg x (wipeE ρ (tgVars tg)) M).bind fun ρ1 M1 => (evalCs cs ρ1 M1).bind fun b M2 => if b then (evalE e ρ1 M2).bind fun y M3 => .ok (some y) M3 else .ok none M2) s.guard s.items M1).bind fun ys M2 =>
      if ys.length ≤ LINE then .ok (.fls ys) M2 else .err
  | .lcomp2 e tg it cs tg2 it2 cs2, ρ, M => (evalI it ρ M).bind fun s M1 =>
    (compL2 (fun x M => (asgT tg x ρ M).bind fun ρ1 M1 => (evalCs cs ρ1 M1).bind fun b M2 => if b then (evalI it2 ρ1 M2).bind fun s2 M3 =>
        compL (fun x M => (asgT tg2 x ρ1 M).bind fun ρ2 M1 => (evalCs cs2 ρ2 M1).bind fun b M2 => if b then (evalE e ρ2 M2).bind fun y M3 => .ok (some y) M3 else .ok none M2) s2.guard s2.items M3 else .ok [] M2) s.guard s.items M1).bind fun ys M2 =>
      if ys.length ≤ LINE then .ok (.fls ys) M2 else .err
  | .dcomp k v tg it cs, ρ, M => (evalI it ρ M).bind fun s M1 =>
    (compL (fun x M => (asgT tg x ρ M).bind fun ρ1 M1 => (evalCs cs ρ1 M1).bind fun b M2 => if b then (evalE k ρ1 M2).bind fun y M3 => (evalE v ρ1 M3).bind fun z M4 => .ok (some (.tup [y, z])) M4 else .ok none M2) s.guard s.items M1).bind fun ys M2 =>
      if ys.length ≤ LINE then Res.of ((pairs2 ys).bind fun p => (dputs [] [] p.1 p.2).map fun q => .fdc q.1 q.2) M2 else .err
  | .isinst a t, ρ, M => (evalE a ρ M).bind fun x M1 => Res.of ((isT t M1 x).map .bl) M1
  | .isown a t, ρ, M => (evalE a ρ M).bind fun x M1 => (match fields M1 x with
    | some (c, _, _) => if c = t ∧ (clsOf P c).isSome then .ok (.bl true) M1 else .err
    | none => if (tyNm M1 x).isSome then .ok (.bl false) M1 else .err)
  | .lvals e, ρ, M => (evalE e ρ M).bind fun x M1 => (match dict? M1 x with
    | some (_, vs) => .ok (.fls vs) M1
    | none => .err)
  | .frzE e, ρ, M => finR M.length M (evalE e ρ M)
  | .lock i e, ρ, M => (match ρ[i]? with
    | some (some (.ref a)) => (match M[a]? with
      | some (.dct ep ks vs) => (match evalE e ρ (M.set a (.lck ks vs)) with
        | .ok v M1 => if M1[a]? = some (.lck ks vs) then .ok v (M1.set a (.dct ep ks vs)) else .err
        | _ => .err)
      | _ => evalE e ρ M)
    | _ => evalE e ρ M)
  | .lenO e, ρ, M => (evalE e ρ M).bind fun x M1 => (match special P M1 x "__len__" with
    | some f => (noEx (cal f [x] M1)).bind fun r M2 => (match r with
      | .int i => if 0 ≤ i ∧ i < 4611686018427387904 then .ok (.int i) M2 else .err
      | _ => .err)
    | none => .err)
  | .fstr es, ρ, M => (evalEs es ρ M).bind fun vs M1 => (match strsV vs with
    | some l => if (l.foldl (fun a b => a ++ b) Str.empty).length ≤ LINE then .ok (.str (l.foldl (fun a b => a ++ b) Str.empty)) M1 else .err
    | none => .err)
  | .cmpp op a b, ρ, M => (evalE a ρ M).bind fun x M1 => (evalE b ρ M1).bind fun y M2 => Res.of ((cmpP M2 op x y).map .bl) M2
  | .xfld a f, ρ, M => (evalE a ρ M).bind fun x M1 => (match x with
    | .exn cn ns vs => (match excOf P cn with
      | some d => if d.ns.contains f then Res.of (fldV ns vs f) M1 else .err
      | none => .err)
    | _ => .err)
  | .xis a d, ρ, M => (evalE a ρ M).bind fun x M1 => (match x with
    | .exn c _ _ => if (excOf P c).isSome then .ok (.bl (catches P d c)) M1 else .err
    | _ => .err)
  | .xisV a, ρ, M => (evalE a ρ M).bind fun x M1 => (match x with
    | .exn c _ _ => if (excOf P c).isSome then .ok (.bl true) M1 else .err
    | _ => .err)
  | .newX c as how, ρ, M => (evalEs as ρ M).bind fun vs M1 => (match bindArgs vs how with
    | some ws => mkExn P c ws M1
    | none => .err)
  | .lrng a b, ρ, M => (evalE a ρ M).bind fun x M1 => (evalE b ρ M1).bind fun y M2 => (match x, y with
    | .int i, .int j => if inR i && inR j && decide ((j - i).toNat ≤ LINE) then .ok (.fls (rngV i (j - i).toNat)) M2 else .err
    | _, _ => .err)
  | .bad, _, _ => .err
def evalO : Option ME → Env → Mem → Res (Option MV)
  | none, _, M => .ok none M
  | some e, ρ, M => (evalE e ρ M).bind fun x M1 => .ok (some x) M1
def evalEs : List ME → Env → Mem → Res (List MV)
  | [], _, M => .ok [] M
  | e :: r, ρ, M => (evalE e ρ M).bind fun x M1 => (evalEs r ρ M1).bind fun xs M2 => .ok (x :: xs) M2
/-- tests, one after another -/
def evalCs : List ME → Env → Mem → Res Bool
  | [], _, M => .ok true M
  | e :: r, ρ, M => (evalE e ρ M).bind fun x M1 => (match truth M1 x with
    | some true => evalCs r ρ M1
    | some false => .ok false M1
    | none => .err)
def evalPs : List MP → Env → Mem → Res (List MV × List MV)
  | [], _, M => .ok ([], []) M
  | .kv k v :: r, ρ, M => (evalE k ρ M).bind fun x M1 => (evalE v ρ M1).bind fun y M2 => (evalPs r ρ M2).bind fun p M3 => .ok (x :: p.1, y :: p.2) M3
  | .star _ :: _, _, _ => .err
/-- a display with ** in it -/
def evalDs : List MP → List MV → List MV → Env → Mem → Res MV
  | [], as, bs, _, M => if as.length ≤ LINE then .ok (.fdc as bs) M else .err
  | .kv k v :: r, as, bs, ρ, M => (evalE k ρ M).bind fun x M1 => (evalE v ρ M1).bind fun y M2 => (match dput as bs x y with
    | some (as, bs) => evalDs r as bs ρ M2
    | none => .err)
  | .star v :: r, as, bs, ρ, M => (evalE v ρ M).bind fun y M1 => (match dict? M1 y with
    | some (ls, ws) => if !as.isEmpty || ls.all (fun k => match k with | .tup _ => false | _ => true) || decide (ls.length ≤ 1) then (match dputs as bs ls ws with
      | some (as, bs) => evalDs r as bs ρ M1
      | none => .err) else .err
    | none => .err)
def evalAs : List MA → Env → Mem → Res (List MV)
  | [], _, M => .ok [] M
  | .e m :: r, ρ, M => (evalE m ρ M).bind fun x M1 => (evalAs r ρ M1).bind fun xs M2 => .ok (x :: xs) M2
  | .star m :: r, ρ, M => (evalE m ρ M).bind fun x M1 => (match starV M1 x with
    | some ys => (evalAs r ρ M1).bind fun xs M2 => .ok (ys ++ xs) M2
    | none => .err)
def evalI : MI → Env → Mem → Res Src
  | .val e, ρ, M => (evalE e ρ M).bind fun x M1 => (match srcV M1 x with
    | some s => .ok s M1
    | none => .err)
  | .range es, ρ, M => (evalEs es ρ M).bind fun vs M1 => (match rangeOf vs with
    | some xs => .ok ⟨xs, none⟩ M1
    | none => .err)
  | .zip a b, ρ, M => (evalE a ρ M).bind fun x M1 => (evalE b ρ M1).bind fun y M2 => (match x, y with
    | .fls xs, .fls ys => .ok ⟨xs.zipWith (fun x y => .tup [x, y]) ys, none⟩ M2
    | _, _ => .err)
  | .enum a, ρ, M => (evalE a ρ M).bind fun x M1 => (match x with
    | .fls xs => .ok ⟨enumFrom 0 xs, none⟩ M1
    | _ => .err)
  | .items e, ρ, M => (evalE e ρ M).bind fun x M1 => (match dict? M1 x with
    | some (ks, vs) => .ok ⟨ks.zipWith (fun k v => .tup [k, v]) vs, guardOf M1 x⟩ M1
    | none => .err)
  | .values e, ρ, M => (evalE e ρ M).bind fun x M1 => (match dict? M1 x with
    | some (_, vs) => .ok ⟨vs, guardOf M1 x⟩ M1
    | none => .err)
/-- a target gets a value -/
def asgT : MT → MV → Env → Mem → Res Env
  | .var i, v, ρ, M => if i < ρ.length then .ok (ρ.set i (some v)) M else .err
  | .tup ts, v, ρ, M => (match v with
    | .tup xs => if xs.length = ts.length then asgTs ts xs ρ M else .err
    | _ => .err)
  | .fld o f, v, ρ, M => (evalE o ρ M).bind fun x M1 => if fldOk P M1 x f then (match fldSet M1 x f v with
    | some M2 => .ok ρ M2
    | none => .err) else .err
  | .idx o i, v, ρ, M => (evalE o ρ M).bind fun x M1 => (evalE i ρ M1).bind fun y M2 => (match setM M2 x y v with
    | some M3 => .ok ρ M3
    | none => .err)
def asgTs : List MT → List MV → Env → Mem → Res Env
  | t :: ts, x :: xs, ρ, M => (asgT t x ρ M).bind fun ρ1 M1 => asgTs ts xs ρ1 M1
  | [], [], ρ, M => .ok ρ M
  | _, _, _, _ => .err
end
def Out.ofR (ρ : Env) {α : Type} (r : Res α) (f : α → Mem → Out) : Out := match r with
  | .ok a M => f a M
  | .ex c ns vs M => .ex c ns vs ρ M
  | .err => .err
/-- o.f op= v, o[i] op= v -/
def augT (t : MT) (op : Operator) (e : ME) (ρ : Env) (M : Mem) : Res Env := match t with
  | .var i => (match ρ[i]? with
    | some (some x) => (evalE P cal e ρ M).bind fun y M1 => (match x, y with
      | .int a, .int b => (match binI op a b with
        | some z => .ok (ρ.set i (some (.int z))) M1
        | none => .err)
      | _, _ => .err)
    | _ => .err)
  | .fld o f => (evalE P cal o ρ M).bind fun x M1 => (match fields M1 x with
    | some (_, ns, vs) => (match fldV ns vs f with
      | some u => (evalE P cal e ρ M1).bind fun y M2 => (match u, y with
        | .int a, .int b => (match binI op a b with
          | some z => (match fldSet M2 x f (.int z) with
            | some M3 => .ok ρ M3
            | none => .err)
          | none => .err)
        | _, _ => .err)
      | none => .err)
    | none => .err)
  | .idx o i => (evalE P cal o ρ M).bind fun x M1 => (evalE P cal i ρ M1).bind fun k M2 => (match idxM M2 x k with
    | some u => (evalE P cal e ρ M2).bind fun y M3 => (match u, y with
      | .int a, .int b => (match binI op a b with
        | some z => (match setM M3 x k (.int z) with
          | some M4 => .ok ρ M4
          | none => .err)
        | none => .err)
      | _, _ => .err)
    | none => .err)
  | .tup _ => .err
/-- an except suite raises nothing here -/
def noXs : Out → Out
  | .ex _ _ _ _ _ => .err
  | o => o
mutual
def execS : MS → Env → Mem → Out
  | .asg t e, ρ, M => .ofR ρ (evalE P cal e ρ M) fun v M1 => .ofR ρ (asgT P cal t v ρ M1) fun ρ1 M2 => .nx ρ1 M2
  | .aug t op e, ρ, M => .ofR ρ (augT P cal t op e ρ M) fun ρ1 M1 => .nx ρ1 M1
  | .expr e, ρ, M => .ofR ρ (evalE P cal e ρ M) fun _ M1 => .nx ρ M1
  | .ret e, ρ, M => .ofR ρ (evalE P cal e ρ M) fun v M1 => .rt v M1
  | .ifS t a b, ρ, M => .ofR ρ (evalE P cal t ρ M) fun x M1 => (match truth M1 x with
    | some true => execSs a ρ M1
    | some false => execSs b ρ M1
    | none => .err)
  | .whileS t a, ρ, M => whileL (fun ρ M => (evalE P cal t ρ M).bind fun x M1 => (match truth M1 x with
    | some b => .ok b M1
    | none => .err)) (execSs a) W ρ M
  | .forS t it a, ρ, M => .ofR ρ (evalI P cal it ρ M) fun s M1 => forL (fun x ρ M => .ofR ρ (asgT P cal t x ρ M) fun ρ1 M1 => execSs a ρ1 M1) s.guard s.items ρ M1
  | .raise c as, ρ, M => .ofR ρ (evalEs P cal as ρ M) fun vs M1 => (match excOf P c with
    | some d => if d.ns.length = vs.length then .ex c d.ns vs ρ M1 else .err
    | none => .err)
  | .tryS a hs, ρ, M => (match execSs a ρ M with
    | .ex c ns vs ρ1 M1 => if (excOf P c).isSome then execHs hs c ns vs ρ1 M1 else .err
    | o => o)
  | .pass, ρ, M => .nx ρ M
  | .brk, ρ, M => .bk ρ M
  | .cnt, ρ, M => .ct ρ M
  | .bad, _, _ => .err
def execSs : List MS → Env → Mem → Out
  | [], ρ, M => .nx ρ M
  | s :: r, ρ, M => (match execS s ρ M with
    | .nx ρ1 M1 => execSs r ρ1 M1
    | o => o)
def execHs : List MH → Str → List Str → List MV → Env → Mem → Out
  | [], c, ns, vs, ρ, M => .ex c ns vs ρ M
  | .mk cs i a :: r, c, ns, vs, ρ, M => if cs.any (fun d => catches P d c) then (match i with
      | none => noXs (execSs a ρ M)
      | some i => (match execSs a (ρ.set i (some (.exn c ns vs))) M with
        | .nx ρ1 M1 => .nx (ρ1.set i none) M1
        | .bk ρ1 M1 => .bk (ρ1.set i none) M1
        | .ct ρ1 M1 => .ct (ρ1.set i none) M1
        | .rt v M1 => .rt v M1
        | _ => .err)) else execHs r c ns vs ρ M
end
end
def fnOf? (P : MProg) (f : Str) : Option FDef := P.fns.find? fun d => decide (d.nm = f)
/-- a body's result -/
def runF (P : MProg) (cal : Cal) (W : Nat) (d : FDef) (vs : List MV) (M : Mem) : Res MV :=
  if vs.length = d.ps.length then
    let r : Res MV := match execSs P cal W d.body (vs.map some ++ List.replicate (d.N.length - vs.length) none) M with
      | .nx _ M1 => .ok .non M1
      | .rt v M1 => .ok v M1
      | .ex c ns ws _ M1 => .ex c ns ws M1
      | _ => .err
    match d.region with
    | .no => r
    | .frz => finR M.length M r
    | .keep => finK M.length M r
  else .err
/-- the call of a function, so many calls deep -/
def callF (P : MProg) (W : Nat) : Nat → Cal
  | 0, _, _, _ => .err
  | n + 1, f, vs, M => match fnOf? P f with
    | some d => runF P (callF P W n) W d vs M
    | none => .err
end Mi
/-! Mini, part Gd: promises of defs where it is known that no repr is under way. -/
set_option autoImplicit false
set_option linter.all false
namespace Mi
open PySem L2 PySem.Spec PyProof.Rows

/-- no repr is under way -/
def Quiet (A : Around) : Prop := A.guards = some []
theorem Quiet.make {A : Around} (h : Quiet A) (C : Addr) (us : List Value) (kw : List (Str × Value)) : Quiet (A.under (.builtin "type.__call__" ⟨.ref C :: us, kw⟩)) := by
  have e : (A.under (.builtin "type.__call__" ⟨.ref C :: us, kw⟩)).guards = A.guards := by
    first | rfl | simp [Around.under, Code.guards, Code.isGuard, pushGuards, guardIds]
  exact e.trans h
/-- a promise kept where no repr is under way -/
structure FnOk (P : Program) (w : World) (K : W.Frag) (mg : Str → Option Value) (base : Heap) (CX' : CXT) (k : Nat) (f : Addr) (fd : FuncData) (ps : List Str) (sp : Sp) : Prop where
  len : ∀ vs H Q E, sp vs H Q E → vs.length = ps.length
  run : ∀ (A : Around) (outer : List PySem.Env) (s : Shared) (H : Hp) (args : Args) (us : List Value) (vs : List V) (Q : VK) (E : XK), Room k A → Quiet A → Env0 P w K mg base A outer s H → BindsTo s fd args (ps.zip us) → Vals vs us → sp vs H Q E →
    codeAny (model P w) A (.call (.ref f) args) (CR CX' outer P w H s Q E) s
def FnR (P : Program) (w : World) (K : W.Frag) (mg : Str → Option Value) (base : Heap) (CX' : CXT) (k : Nat) (f : Addr) (sp : Sp) : Prop :=
  ∀ (A : Around) (outer : List PySem.Env) (s : Shared) (H : Hp) (us : List Value) (vs : List V) (Q : VK) (E : XK), Room k A → Quiet A → Env0 P w K mg base A outer s H → Vals vs us → sp vs H Q E →
    codeAny (model P w) A (.call (.ref f) ⟨us, []⟩) (CR CX' outer P w H s Q E) s
theorem fnR_of {P : Program} {w : World} {K : W.Frag} {mg : Str → Option Value} {base : Heap} {CX' : CXT} {k : Nat} {f : Addr} {fd : FuncData} {ps : List Str} {sp : Sp} (F : FnOk P w K mg base CX' k f fd ps sp) (b : Binds K fd ps []) : FnR P w K mg base CX' k f sp := by
  intro A outer s H us vs Q E hr hg e0 hv h
  have hl : us.length = ps.length := by rw [← F.len vs H Q E h]; exact (Vals.length hv).symm
  have := b s us (fun a o ha => (e0.bs a o (e0.mod.kin a o ha)).1) (by simpa using hl)
  exact F.run A outer s H _ us vs Q E hr hg e0 (by simpa using this) hv h
section
variable {X : Cx} {CX' : CXT} {k : Nat} {f C : Addr} {fd : FuncData} {ps : List Str} {sp : Sp} {pins : List (Addr × Obj)} {σ : L2.St} {H : Hp} {s : Shared} {Q : VK} {us : List Value} {vs : List V} {x m : Str} {p pos apos : Pos} {e o : Expr} {es : List Expr} {ta : TE} {t : TA}
/-- a result, in the form of an expression's ends -/
def ResP (X : Cx) (pins : List (Addr × Obj)) (σ : L2.St) (Q : VK) : Result → Shared → Prop := fun r s' => match r with
  | .ok (.ret v) => EP X pins σ Q v s'
  | .ok _ => False
  | .error e => X.xe e s'
/-- what a call that kept its promise leaves -/
theorem after_call {E : XK} (hx : PassesAt CX' X σ E) (I : L2.Inv X pins σ H s) {r : Result} {s' : Shared} (h : CR CX' X.stack X.prog X.w H s Q E r s') : ResP X pins σ Q r s' := by
  cases r with
  | error e => exact hx pins H s e s' I h
  | ok fl =>
    cases fl with
    | ret u => exact I.after h
    | next => exact False.elim h
    | brk => exact False.elim h
    | cont => exact False.elim h
theorem resP_call {f : Value} (h : codeAny (model X.prog X.w) X.A (.call f ⟨us, []⟩) (ResP X pins σ Q) s) : wpAny (model X.prog X.w) X.A (call f us) (EP X pins σ Q) X.xe s := by
  refine wpAny_call (codeAny_mono h fun r s' z => ?_)
  cases r with
  | error e => exact z
  | ok fl => cases fl <;> first | exact z | exact False.elim z
theorem run_fnR {E : XK} (F : FnR X.prog X.w X.K X.mg X.base CX' k f sp) (hr : Room k X.A) (hq : Quiet X.A) (hx : Passes CX' X E) (I : L2.Inv X pins σ H s) (r : Vals vs us) (h : sp vs H Q E) :
    wpAny (model X.prog X.w) X.A (call (.ref f) us) (EP X pins σ Q) X.xe s :=
  resP_call (codeAny_mono (F X.A X.stack s H us vs Q E hr hq I.env0 r h) fun _ _ z => after_call (fun pins H s e s' I => hx pins σ H s e s' I) I z)
theorem run_fnS {E : XK} (F : FnOk X.prog X.w X.K X.mg X.base CX' k f fd ps sp) (hr : Room k X.A) (hq : Quiet X.A) (hb : Binds X.K fd ps []) (hx : PassesAt CX' X σ E) (I : L2.Inv X pins σ H s) (r : Vals vs us) (h : sp vs H Q E) : wpAny (model X.prog X.w) X.A (call (.ref f) us) (EP X pins σ Q) X.xe s := by
  have hl : us.length = ps.length := by rw [← F.len _ _ _ _ h]; exact (Vals.length r).symm
  have b := hb s us I.kIn (by simpa using hl)
  rw [List.append_nil] at b
  exact resP_call (codeAny_mono (F.run X.A X.stack s H ⟨us, []⟩ us vs Q E hr hq I.env0 b r h) fun _ _ z => after_call hx I z)
theorem pe_callS {E : L2.St → XK} (F : FnOk X.prog X.w X.K X.mg X.base CX' k f fd ps sp) (hr : Room k X.A) (hq : Quiet X.A) (hg : Gl X x) (hm : X.mg x = some (.ref f)) (hk : W.keepIn X.K (.ref f) = true) (hb : Binds X.K fd ps []) (hx : ∀ σ, PassesAt CX' X σ (E σ)) (ha : PA X (e :: es) t)
    (hdb : (x == Str.ofString "__debug__") = false) (he : starEach (e :: es) X.env = (false, eval e X.env) :: starEach es X.env) (hpl : ((backTo pos (starEach es X.env)).any fun x => x.1) = false) :
    PE X (.Call (.Name x p) (e :: es) [] pos) (fun σ H Q => t σ H fun vs H1 => sp vs H1 Q (E σ)) := by
  refine ⟨fun pins s σ H Q I h => wpAny_Call_Name_kw (ld_glob I hg hm (W.callWith_K I.ok.mod.kin hk (thn (ha.run pos pins s σ H _ I h) fun us s1 z => ?_) he hpl) hdb)⟩
  obtain ⟨vs, H1, I1, r, q⟩ := z
  exact ⟨I1.kIn, run_fnS F hr hq hb (hx σ) I1 r q⟩
theorem pe_meth0S {E : L2.St → XK} {pl : Sem Bool} (he : PE X o ta) (c : Cls X.K C) (hm : Meth X.K C m f) (F : FnOk X.prog X.w X.K X.mg X.base CX' k f fd ps sp) (hr : Room k X.A) (hq : Quiet X.A) (hb : Binds X.K fd ps []) (hx : ∀ σ, PassesAt CX' X σ (E σ))
    (ht : eval ((o.Attribute m apos).Call [] [] pos) X.env = (do
      let ov ← eval o X.env
      standAt apos.atName
      let __x ← holding [ov] (getMethod ov m pl)
      match __x with
      | (f, first) => callWith pos f first (backTo pos (starEach [] X.env)) (backToKw pos (keywordEach [] X.env)))) :
    PE X ((o.Attribute m apos).Call [] [] pos) (fun σ H Q => ta σ H fun x H1 => ∃ (a dx : Addr) (fs : List (Str × V)), x = .ref a ∧ H1 a = some (.ins C dx fs) ∧ fs.lookup m = none ∧ sp [x] H1 Q (E σ)) := by
  refine ⟨fun pins s σ H Q I h => W.methodCall_KW (pl := pl) (thn (he.run pins s σ H _ I h) fun u s1 x => ?_) ht⟩
  obtain ⟨x, H1, I1, rx, a, dx, fs, rfl, ea, l, q⟩ := x
  cases (show u = .ref a from rx)
  exact getmeth_ok I1 ea c hm l (W.callWith_K0 (first := [.ref a]) I1.kIn hm.kp (run_fnS (us := [.ref a]) (vs := [.ref a]) F hr hq hb (hx σ) I1 (.cons rfl .nil) q))
/-- a property read -/
theorem pe_prop {E : XK} {g q : Addr} {a : Str} (he : PE X e ta) (c : Cls X.K C) (hp : PropOf X.K C a q g) (F : FnOk X.prog X.w X.K X.mg X.base CX' k g fd ps sp) (hr : Room (k + 1) X.A) (hq : Quiet X.A) (hb : Binds X.K fd ps []) (hx : Passes CX' X.nox E)
    (hab : attributeBase e a X.env (eval e X.env) = eval e X.env) : PE X (.Attribute e a pos) (tProp C sp [] E ta) := by
  refine ⟨fun pins s σ H Q I h => attr_of hab (thn (he.run pins s σ H _ I h) fun u s1 z => ?_)⟩
  obtain ⟨x, H1, I1, rx, y, dx, fs, rfl, ea, z⟩ := z
  cases (show u = .ref y from rx)
  obtain ⟨mA, O, _, _, _, _⟩ := ins_get I1.hok ea
  obtain ⟨od, J, _⟩ := O.look
  obtain ⟨rest, hrec⟩ := hp.rec_
  have I2 := I1.tok (s1.toks + 1)
  have hl : [Value.ref y].length = ps.length := by
    rw [← F.len _ _ _ _ z]; rfl
  have hc : (W.clsIn X.K C).isSome = true := by
    obtain ⟨cd, hc, _⟩ := W.any_some c.hd
    rw [hc]; rfl
  have b := hb { s1 with toks := s1.toks + 1 } [.ref y] I2.kIn (by simpa using hl)
  rw [List.append_nil] at b
  refine W.get_bind I1.kIn J (W.plainGet_of (c.get a)).1 (W.findObj_data hc hp.at_ hp.get hp.tak) (W.plainGet_of (c.get a)).2 (wpAny_call (W.prop_get (s := { s1 with toks := s1.toks + 1 }) I1.kIn hrec ?_))
  refine codeAny_mono (F.run X.A.in1 X.stack { s1 with toks := s1.toks + 1 } H1 ⟨[.ref y], []⟩ [.ref y] [.ref y] Q E hr.in1 hq I2.env0.in1 b (.cons rfl .nil) z) fun r s' z' => ?_
  cases r with
  | error er => exact False.elim (hx pins σ H1 { s1 with toks := s1.toks + 1 } er s' (I2.wish _) z')
  | ok fl =>
    cases fl with
    | ret u =>
      obtain ⟨v, H', I3, rv, q3⟩ := I2.after z'
      show wpAny _ _ (handedOut u) _ _ _
      rw [W.handedOut_of (handed_of rv)]
      exact wpAny_pure ⟨v, H', I3, rv, q3⟩
    | next => exact False.elim z'
    | brk => exact False.elim z'
    | cont => exact False.elim z'
end
section
open PySem.Spec PyProof.Rows
variable {P : Program} {w : World} {K : W.Frag} {mg : Str → Option Value} {base : Heap} {x qual : Str} {params : Arguments} {body : List Stmt} {scope : Scope} {dvs : List V} {kws : List (Str × V)} {f : Addr} {fd : FuncData}
/-- a def's body keeps its promise -/
theorem fun_ok {CX' : CXT} {N ps : List Str} {k : Nat} {sp : Sp} (F : FunD K x qual params body scope dvs kws f fd) (S : FnScope N ps scope) (len : ∀ vs H Q E, sp vs H Q E → vs.length = ps.length)
    (hbody : ∀ (cdv : Value) (A : Around) (outer : List PySem.Env) (s : Shared) (H : Hp) (vs : List V) (Q : VK) (E : XK), Room k (A.deeper (envOfC qual scope s.heap.objs.size f cdv)) → Quiet A → sp vs H Q E →
      ∃ t, PSs (cxOf CX' P w K mg base N qual scope f cdv A outer s H E) body t ∧ t { nx := fun _ H' => Q .non H', rt := Q } (start N vs) H) : FnOk P w K mg base CX' (k + 1) f fd ps sp := by
  obtain ⟨oc, od, dV, kV, doc, pm, an, cdv, ct, osl, rfl, lk, hcd, _, _⟩ := F.ex
  refine ⟨len, fun A outer s H args us vs Q E hr hq e0 hb r hsp => ?_⟩
  have up : ∀ b o, base.get? b = some o → s.heap.get? b = some o := fun b o e => (e0.bs b o e).1
  have KX : K.In s.heap := e0.mod.kin.keeps up
  have par : ∀ y ∈ ps.zip us, scope.names.lookup y.1 = some .local ∨ (scope.names.lookup y.1 = some .cell ∧ ((cellsFrom (s.heap.objs.size + 1) scope.names []).lookup y.1).isSome = true) := fun y hy =>
    (S.par y.1 (List.of_mem_zip (a := y.1) (b := y.2) hy).1).imp id fun q => ⟨q, W.cellsFrom_some _ _ _ (.inl q)⟩
  refine codeAny_call_function hr.depth (KX _ _ lk) rfl S.co S.gen rfl (W.codeRec_of KX hcd) (hb _ _ _ _ (wpAny_newFunctionEnv_cells S.kind par fun env he s1 x => ?_))
  subst he
  obtain ⟨t, ht, hq'⟩ := hbody _ A outer s H vs Q E (hr.deeper _) hq hsp
  have I := inv_start (CX := CX') (K := K) (mg := mg) (E := E) S hr.hd e0 (len _ _ _ _ hsp) r x
  refine ⟨(e0.mod.nolimit.keeps up).keeps x.toInCall.keep, codeAny_func (wpAny_mono (ht.run [] s1 _ H _ I hq') (fun fl s' z => ?_) fun _ _ z => z)⟩
  cases fl with
  | ret u =>
    obtain ⟨v, σ', H', J, rv, q⟩ := z
    exact ⟨v, H', J.os, J.bare, J.base, J.hok, rv, q⟩
  | next =>
    obtain ⟨σ', H', J, q⟩ := z
    exact ⟨.non, H', J.os, J.bare, J.base, J.hok, rfl, q⟩
  | brk =>
    obtain ⟨_, _, _, q⟩ := z
    exact q.elim
  | cont =>
    obtain ⟨_, _, _, q⟩ := z
    exact q.elim
end
/-- the law's own call -/
theorem law_call {P : Program} {w : World} {K : W.Frag} {mg mb : Str → Option Value} {CX' : CXT} {k : Nat} {fa a : Addr} {fd : FuncData} {x : Str} {sp : Sp} {s₁ : Shared} {vs : List Value} {ns : List Int}
    (KX : K.In s₁.heap) (hns : s₁.heap.Ns mainGlobals mg) (hb : s₁.heap.Ns builtinsNs mb) (hbb : ∀ x : Str, x ≠ "__name__" → mb x = bootBuiltins x) (hlim : s₁.heap.NoLimit) (hg : s₁.gens = #[])
    (ha : s₁.heap.get? a = some { cls := .type "list", data := .seq vs.toArray }) (hi : IntsAre vs ns) (hl : ns.length ≤ sizeLine) (hr : Room k callerA)
    (F : ∀ base : Heap, K.In base → base.Ns mainGlobals mg → FnOk P w K mg base CX' k fa fd [x] sp) (hbind : ∀ (s : Shared) (u : Value), BindsTo s fd ⟨[u], []⟩ [(x, u)])
    (hsp : ∀ H : Hp, Only H → SqL K H a (ns.map V.int) → sp [.ref a] H (fun v _ => v = .bl true) fun _ _ _ => False)
    (hCX : ∀ H e s', CX' [] H s₁ (fun _ _ _ => False) e s' → False) :
    codeAny (model P w) callerA (.call (.ref fa) ⟨[.ref a], []⟩) (fun r s' => r = .ok (.ret (.bool true)) ∧ OldK s₁.heap s'.heap ∧ s'.os = s₁.os ∧ AllBare s'.gens) s₁ := by
  have rv := vals_ints hi
  -- one abstract heap: at most the script's place is told
  have core : ∀ H : Hp, Only H → SqL K H a (ns.map V.int) → HOk P w H s₁.heap → (∀ b, H b ≠ none → b = a) → (H a ≠ none → K.lookup a = none) →
      codeAny (model P w) callerA (.call (.ref fa) ⟨[.ref a], []⟩) (fun r s' => r = .ok (.ret (.bool true)) ∧ OldK s₁.heap s'.heap ∧ s'.os = s₁.os ∧ AllBare s'.gens) s₁ := by
    intro H hO hS hok hA hK
    have noD : ∀ {b : Addr} {o : Obj}, s₁.heap.get? b = some o → (∀ its n, o.data ≠ Data.seq its n) → H b = none := by
      intro b o e d
      by_cases q : H b = none
      · exact q
      · cases hA b q
        rw [ha] at e; cases e
        exact (d _ _ rfl).elim
    have nsK : ∀ {b : Addr} {m : Str → Option Value}, s₁.heap.Ns b m → (hidT s₁.heap H).Ns b m := fun ⟨o, es, ep, e, d, r⟩ => ⟨o, es, ep, hidT_get e (noD e fun its n z => by rw [d] at z; cases z), d, r⟩
    have hKb : K.In (hidT s₁.heap H) := fun b o e => hidT_get (KX b o e) (by
      by_cases q : H b = none
      · exact q
      · cases hA b q
        rw [hK q] at e; cases e)
    have hM : Mod K mg (hidT s₁.heap H) := ⟨hKb, nsK hns, ⟨mb, nsK hb, hbb⟩, let ⟨mc, h1, h2⟩ := hlim; ⟨mc, nsK h1, h2⟩⟩
    have e0 : Env0 P w K mg (hidT s₁.heap H) callerA [] s₁ H := ⟨rfl, hM, fun b o e => of_hidT e, Nat.le_of_eq (hidT_size _ _), trivial, fun b hb => absurd (show b ∈ ([] : List Addr) from hb) (by simp), hok, .of_eq hg⟩
    refine codeAny_mono ((F _ hKb (nsK hns)).run callerA [] s₁ H ⟨[.ref a], []⟩ [.ref a] [.ref a] _ _ hr rfl e0 (hbind s₁ (.ref a)) (.cons rfl .nil) (hsp H hO hS)) fun r s' h => ?_
    cases r with
    | error e => exact (hCX H e s' h).elim
    | ok fl =>
      cases fl with
      | next => exact False.elim h
      | brk => exact False.elim h
      | cont => exact False.elim h
      | ret u =>
        obtain ⟨v, H', os, bare, un, hok', r', q⟩ := h
        cases (show v = .bl true from q)
        cases (show u = Value.bool true from r')
        refine ⟨rfl, OldK.of_keep fun b o e => ?_, os, bare⟩
        cases q : H b with
        | none => exact un.keep b o e q (by intro z; exact absurd (show b ∈ ([] : List Addr) from z) (by simp)) (by simp)
        | some u =>
          rcases hO b with z | ⟨ob, xs, z⟩
          · rw [q] at z; cases z
          · have z2 := un.frzs b ob _ z
            have e1 := (hok b _ z).1
            rw [e] at e1; cases e1
            exact (hok' b _ z2).1
  cases hk : K.lookup a with
  | some o =>
    have e := KX a o hk
    rw [ha] at e
    cases e
    exact core (fun _ => none) (fun _ => .inl rfl) (.inr ⟨_, vs.toArray, _, hk, rfl, rfl, rfl, by rw [List.size_toArray, hi.length]; exact hl, by simpa using rv⟩) (fun b u z => by cases (show (none : Option HO) = some u from z)) (fun b z => absurd rfl z) fun z => absurd rfl z
  | none =>
    let so : Obj := { cls := .type "list", data := .seq vs.toArray }
    have at_ : (if a = a then some (HO.frz so (.lst (ns.map V.int))) else none) = some (HO.frz so (.lst (ns.map V.int))) := if_pos rfl
    refine core (fun b => if b = a then some (.frz so (.lst (ns.map V.int))) else none) (fun b => ?_) (.inl (.inr ⟨so, at_⟩)) (fun b u z => ?_) (fun b z => ?_) fun _ => hk
    · by_cases hb : b = a
      · exact .inr ⟨_, _, if_pos hb⟩
      · exact .inl (if_neg hb)
    · by_cases hb : b = a
      · cases (if_pos hb).symm.trans z
        subst hb
        exact ⟨ha, by rw [List.length_map]; exact hl, vs, _, rv, ha⟩
      · cases (if_neg hb).symm.trans z
    · by_cases hb : b = a
      · exact hb
      · exact absurd (if_neg hb) z
end Mi
set_option maxRecDepth 100000
namespace L2
open PySem PySem.Spec PyProof.Rows PySem.W

/-- super().__init__ over ValueError, as a method-wrapper, called: every object but the exception is kept -/
theorem mw_call {prog : Program} {w : World} {A : Around} {E : Value → Shared → Prop} {hp : Heap} {g : Array GenState} {d : Drawn} {tk : Nat} {os : OsState} {u x C t0 : Addr} {rest : List Value} {K : Frag} {Q : Value → Shared → Prop}
    (T : OexC K C) (KX : K.In hp) (hu : hp.get? u = some (kxs_mw "ValueError.__init__" x)) (he : hp.get? x = some (PySem.HandSPX.excO C t0)) (hz : rest.length ≤ sizeLine)
    (h : ∀ h' t1, (∀ b o, b ≠ x → hp.get? b = some o → h'.get? b = some o) → h'.get? x = some (PySem.HandSPX.excO C t1) → Q .none ⟨h', g, d, tk, os⟩) :
    wpAny (model prog w) A (call (.ref u) rest) Q E ⟨hp, g, d, tk, os⟩ := by
  obtain ⟨nm, q, N, bs, bm, sn, sub, ab, col, dd, k0, k1, k2, k3, k5, hC, hbm⟩ := T.cls
  refine wpAny_call (codeAny_of_tree ?_)
  show wpAny _ A.in1 (callAny (.ref u) ⟨rest, []⟩) _ _ _
  simp only [callAny]
  refine wpAny_bind (wpAny_load hu ?_)
  simp only [kxs_mw, show (Value.type "method-wrapper" == Value.type "method" || Value.type "method-wrapper" == Value.type "builtin_function_or_method" || Value.type "method-wrapper" == Value.type "method-wrapper") = true by decide, if_true]
  refine KFB.if_so (by decide) ?_
  refine wpAny_bind (check_bound_init F.excBase_ValueError.toExcCallFacts (KX _ _ hC) he rfl ?_)
  refine wpAny_bind (wpAny_pure (wpAny_pure ?_))
  refine ⟨plainId_quiet F.excBase_ValueError.init.plain _, codeAny_builtin F.excBase_ValueError.initEntry ?_⟩
  exact exc_init_tree (cls := .ref C) (t0 := t0) (dv := none) (c2 := .none) (c3 := .none) (b4 := .bool false) he hz fun h' k e' _ => h h' _ k e'

/-- super().__init__(text) within the body of an own exception's __init__: every object but the exception is kept -/
theorem super_init {P : Program} {w : World} {A : Around} {E : Value → Shared → Prop} {hp : Heap} {g : Array GenState} {d : Drawn} {tk : Nat} {os : OsState} {K : Frag} {env : PySem.Env} {body : List Stmt} {x C f cc cda t0 : Addr} {of : Obj} {fd : FuncData} {ar : Arg}
    {vs : Array Value} {file : Str} {tf : Tok} {cdC : ClassData} {oco : Obj} {text : Str} {p0 p1 p2 pos : Pos} {p3 : Nat} {p4 : Pos} {Q : Value → Shared → Prop} {pl : Sem Bool}
    (T : OexC K C) (KX : K.In hp) (he : hp.get? x = some (PySem.HandSPX.excO C t0))
    (hks : env.kindOf "super" = some .globalImplicit) (hkc : env.kindOf "__class__" = some .free) (hfu : env.func = some f) (hf : hp.get? f = some of) (hfd : of.data = .func fd)
    (hpar : (fd.params.posonlyargs ++ fd.params.args).head? = some ar) (hco : env.code = .ref cda) (hcc : hp.get? cda = some oco) (hoc : oco.data = .fields vs) (hvs : vs[2]? = some (.str file tf))
    (hfile : ((P.main.file : Str) == file) = true) (htop : (P.main.scope.names.lookup ("super" : Str)).isSome = false)
    (hcd : clsIn K C = some cdC) (hno : nsIn K cStatics "thirdparty.any" = some none) (hm : ks_superIn K C C "__init__" = some (some (.builtin "ValueError.__init__"))) (hB : subIn K (.ref C) (.type "ValueError") = some true) (hsub : mroIn K C (.ref C) = some true)
    (ls : ∀ tk' (Q' : Value → Shared → Prop), Q' (.type "super") ⟨hp, g, d, tk', os⟩ → wpAny (model P w) A (loadName env "super") Q' E ⟨hp, g, d, tk', os⟩)
    (lc : ∀ tk' (Q' : Value → Shared → Prop), Q' (.ref C) ⟨hp, g, d, tk', os⟩ → wpAny (model P w) A (loadName env "__class__") Q' E ⟨hp, g, d, tk', os⟩)
    (lf : ∀ tk' (Q' : Value → Shared → Prop), Q' (.ref x) ⟨hp, g, d, tk', os⟩ → wpAny (model P w) A (loadName env ar.arg) Q' E ⟨hp, g, d, tk', os⟩)
    (h : ∀ h' t1 tk', (∀ b o, b ≠ x → hp.get? b = some o → h'.get? b = some o) → h'.get? x = some (PySem.HandSPX.excO C t1) → Q .none ⟨h', g, d, tk', os⟩)
    (hev : eval (.Call (.Attribute (.Call (.Name "super" p0) [] [] p1) "__init__" p2) [.Constant (.str text) p3 p4] [] pos) env = (do
      let ov ← attributeBase (.Call (.Name "super" p0) [] [] p1) "__init__" env (eval (.Call (.Name "super" p0) [] [] p1) env)
      standAt p2.atName
      let (f, first) ← holding [ov] (getMethod ov "__init__" pl)
      callWith pos f first (backTo pos (starEach [.Constant (.str text) p3 p4] env)) []) := by rfl) :
    _root_.PySem.wpAt (model P w) A (.func body env) (eval (.Call (.Attribute (.Call (.Name "super" p0) [] [] p1) "__init__" p2) [.Constant (.str text) p3 p4] [] pos) env) Q E ⟨hp, g, d, tk, os⟩ := by
  have hDD : ∃ oD, hp.get? C = some oD ∧ oD.data = .cls cdC := by
    unfold clsIn at hcd
    split at hcd
    · rename_i c d cd' sl ho
      cases hcd
      exact ⟨_, KX _ _ ho, rfl⟩
    · cases hcd
  obtain ⟨oD, hD1, hD2⟩ := hDD
  refine ks_wpAt_MethodCall (pl := pl) ?_ hev
  refine ks_wpAt_super_base hks hkc (by decide) hfu hf hfd hpar hco hcc hoc hvs hfile htop ?_
  refine ls _ _ ⟨rfl, ?_⟩
  refine lc _ _ ?_
  refine lf _ _ ?_
  refine ks_wpAny_isType_cls hD1 hD2 ⟨rfl, ?_⟩
  refine ks_wpAny_call_super hD1 hD2 he rfl (fun c e => by cases e) (looks_mroIn KX hsub) (fun h1 e1 k1 => ?_)
  have KX1 : K.In h1 := KX.keeps k1
  have hm' := hm
  unfold ks_superIn at hm'
  rw [hcd, Option.bind_some] at hm'
  have hI : Looks (model P w) h1 (isInstance (.ref x) (.type "ValueError")) true :=
    (InstAt.type (M := model P w) (show InstAt h1 x (PySem.HandSPX.excO C t0) C none from ⟨k1 _ _ he, rfl, rfl, trivial⟩)).andThen (looks_subIn KX1 hB)
  have hxC : x ≠ C := by
    rintro rfl
    rw [he] at hD1
    cases hD1
    cases hD2
  refine kxs_getMethod kxs_ValueError e1 (looks_opaque KX1 hno) (l₀ := cdC.mro) ?_ rfl KX1 hm' hI hxC (by decide) ?_
  · exact fun A Q E s k q => wpAny_bind ((looks_clsIn KX1 hcd) A _ E s k (wpAny_pure q))
  have k2 : ∀ b o, h1.get? b = some o → (h1.push (kxs_mw "ValueError.__init__" x)).get? b = some o := fun b o e => Heap.get?_push_of_some _ e
  have hu : (h1.push (kxs_mw "ValueError.__init__" x)).get? h1.objs.size = some (kxs_mw "ValueError.__init__" x) := Heap.get?_push_at rfl rfl
  refine kxs_callWith (i := "ValueError.__init__") (x := x) rfl ?_
  refine PySem.Calls.evalArgs_plain (PySem.Calls.spliced_cons (wpAny_Constant_str (k := p3) (pos := p4) (PySem.Calls.spliced_nil ⟨hu, ?_⟩)))
  refine mw_call T (KX1.keeps k2) hu (k2 _ _ (k1 _ _ he)) (by show ([_] : List Value).length ≤ _; rw [sizeLine_eq, List.length_singleton]; omega) fun h' t1 k e' => ?_
  exact h h' t1 _ (fun b o hb ho => k b o hb (k2 _ _ (k1 _ _ ho))) e'
end L2
set_option maxRecDepth 100000
namespace L2
open PySem PySem.Spec PyProof.Rows PySem.W

/-- the context of a def that has __class__ as its one free name -/
def cxS (CX : CXT) (P : Program) (w : World) (K : PySem.W.Frag) (mg : Str → Option Value) (base : Heap) (N : List Str) (qual : Str) (scope : Scope) (f : Addr) (cd : Value) (cc : Addr) (A : Around) (outer : List PySem.Env) (s : Shared) (H : Hp) (E : XK) : Cx where
  prog := P
  w := w
  K := K
  mg := mg
  base := base
  A := A.deeper (ksEnv qual scope s.heap.objs.size f cd cc)
  N := N
  s_0 := s
  H_0 := H
  env := ksEnv qual scope s.heap.objs.size f cd cc
  outer := outer
  stack := ksEnv qual scope s.heap.objs.size f cd cc :: outer
  ex := []
  calm := true
  fn := fun _ => false
  pn := []
  xe := fun e s' => wpAny (model P w) (A.deeper (ksEnv qual scope s.heap.objs.size f cd cc)) (leaving (ksEnv qual scope s.heap.objs.size f cd cc) e) (fun _ s'' => CX outer H s E e s'') (fun e' s'' => CX outer H s E e' s'') s'

theorem inv_startS {CX : CXT} {P : Program} {w : World} {K : PySem.W.Frag} {mg : Str → Option Value} {base : Heap} {ps : List Str} {qual : Str} {scope : Scope} {f cc C : Addr} {cd : Value} {A : Around} {outer : List PySem.Env} {s : Shared} {H : Hp} {E : XK} {us : List Value} {vs : List V}
    {h1 : Heap} {tk : Nat} {cl : Value} {cld : Option Addr} {csl : Array (Option Value)} {m : Str → Option Value}
    (hkd : scope.kind = .function) (nd : ps.Nodup) (par : ∀ x ∈ ps, scope.names.lookup x = some .local) (fr : ∀ y ∈ scope.names, y.2 ≠ .cell ∧ (y.2 = .free → y.1 = ("__class__" : Str)))
    (hcc : K.lookup cc = some ⟨cl, cld, .cell (some (.ref C)), csl⟩) (hd : A.handled = none) (e0 : Env0 P w K mg base A outer s H) (hl : vs.length = ps.length)
    (hns : h1.Ns s.heap.objs.size m) (hm : ∀ (i : Nat) x v, ps[i]? = some x → vs[i]? = some v → ∃ u, m x = some u ∧ RelV v u) (hk : ∀ b o, s.heap.get? b = some o → h1.get? b = some o) :
    Inv (cxS CX P w K mg base ps qual scope f cd cc A outer s H E) [] (vs.map some) H { s with heap := h1, toks := tk } := by
  have hbc : base.get? cc = some ⟨cl, cld, .cell (some (.ref C)), csl⟩ := e0.mod.kin _ _ hcc
  have one : ∀ {y : Str} {c : Addr}, (cxS CX P w K mg base ps qual scope f cd cc A outer s H E).env.cells.lookup y = some c → y = ("__class__" : Str) ∧ c = cc := fun {y c} e => by
    have e' : List.lookup y [(("__class__" : Str), cc)] = some c := e
    rw [List.lookup_cons] at e'
    split at e'
    · rename_i q
      exact ⟨by simpa using q, (Option.some.inj e').symm⟩
    · cases e'
  have noA : ∀ b : Addr, b ∉ (cxS CX P w K mg base ps qual scope f cd cc A outer s H E).ex := fun b z => absurd (show b ∈ ([] : List Addr) from z) (by simp)
  refine ⟨⟨e0.mod, hkd, rfl, rfl, Nat.le_refl _, fun y z c h1 h2 => (one h1).1.trans (one h2).1.symm, fun y hy => ?_, fun y c h _ => (by cases h), fun _ => hd, Around.frames_deeper e0.frames, .inr ⟨rfl, rfl⟩, fun b z => absurd z (noA b), e0.bs, e0.bsz, fun b _ _ => noA b, fun b z => absurd z (noA b), e0.funs, e0.frf⟩,
    rfl, e0.bare, Un.kept hk, ⟨m, hns, fun i y v h1 h2 h3 => ?_⟩, fun y c h => ?_, e0.hok.fresh (Nat.le_refl _), fun y c h => ?_, fun p hp => absurd (show p ∈ ([] : List (Addr × Obj)) from hp) (by simp), e0.hok.kept hk, ?_⟩
  · have hy' : scope.names.lookup y = some .cell ∨ scope.names.lookup y = some .free := hy
    rcases hy' with q | q
    · exact absurd rfl (fr _ (PySem.mem_of_lookup q)).1
    · have z := (fr _ (PySem.mem_of_lookup q)).2 rfl
      have z' : y = ("__class__" : Str) := z
      subst z'
      exact ⟨cc, rfl⟩
  · have hv : vs[i]? = some v := by
      rw [List.getElem?_map] at h2
      cases e : vs[i]? with
      | none => rw [e] at h2; cases h2
      | some a => rw [e] at h2; cases h2; rfl
    obtain ⟨u, hu, r⟩ := hm i y v h1 hv
    exact ⟨u, r, .inl ⟨par y (List.mem_of_getElem? h1), hu⟩⟩
  · obtain ⟨_, rfl⟩ := one h
    exact ⟨_, _, hk _ _ (e0.bs _ _ hbc).1, rfl⟩
  · obtain ⟨_, rfl⟩ := one h
    exact (e0.bs _ _ hbc).2
  · show (vs.map some).length = ps.length
    rw [List.length_map, hl]
end L2
set_option maxRecDepth 100000
namespace L2
open PySem PySem.Spec PyProof.Rows PySem.W

/-- what the __init__ of an exception class does: its arguments go into the fields ns -/
def spX (C : Addr) (ns : List Str) : Sp := fun vs H Q _ => ∃ (a : Addr) (ys : List V), vs = .ref a :: ys ∧ ys.length = ns.length ∧ H a = some (exo a C none) ∧ ∀ dx fs, H dx = none → dx ≠ a → (∀ f, fs.lookup f = (ns.zip ys).lookup f) → Q .non (upd (upd H dx (exd dx fs)) a (exo a C (some dx)))

/-! ### lookups -/
theorem lookup_mem {α : Type} : ∀ {l : List (Str × α)}, (l.map (·.1)).Nodup → ∀ {f : Str} {v : α}, l.lookup f = some v ↔ (f, v) ∈ l
  | [], _, f, v => by simp
  | (g, w) :: l, nd, f, v => by
    simp only [List.map_cons, List.nodup_cons] at nd
    rw [List.lookup_cons]
    by_cases c : f = g
    · subst c
      simp only [beq_self_eq_true, List.mem_cons, Prod.mk.injEq, true_and]
      constructor
      · intro h; cases h; exact .inl rfl
      · rintro (rfl | h)
        · rfl
        · exact (nd.1 (List.mem_map.mpr ⟨(f, v), h, rfl⟩)).elim
    · have : (f == g) = false := by simpa using c
      rw [this]
      simp only [List.mem_cons, Prod.mk.injEq, c, false_and, false_or]
      exact lookup_mem nd.2
theorem lookup_rev {α : Type} {l : List (Str × α)} (nd : (l.map (·.1)).Nodup) (f : Str) : l.reverse.lookup f = l.lookup f := by
  have nd' : (l.reverse.map (·.1)).Nodup := by
    rw [List.map_reverse]
    unfold List.Nodup at nd ⊢
    rw [List.pairwise_reverse]
    exact nd.imp fun h => h.symm
  cases h : l.lookup f with
  | some v => rw [lookup_mem nd']; exact List.mem_reverse.mpr ((lookup_mem nd).mp h)
  | none =>
    cases h' : l.reverse.lookup f with
    | none => rfl
    | some v =>
      have := (lookup_mem nd).mpr (List.mem_reverse.mp ((lookup_mem nd').mp h'))
      rw [h] at this; cases this
theorem lookup_zipAt {α : Type} : ∀ {ps : List Str} {us : List α} {i : Nat} {x : Str} {u : α}, ps.Nodup → ps[i]? = some x → us[i]? = some u → (ps.zip us).lookup x = some u
  | [], _, i, _, _, _, h, _ => by simp at h
  | _ :: _, [], i, _, _, _, _, h => by simp at h
  | p :: ps, w :: us, 0, x, u, _, h1, h2 => by
    simp at h1 h2; subst h1; subst h2; simp
  | p :: ps, w :: us, i + 1, x, u, nd, h1, h2 => by
    simp only [List.getElem?_cons_succ] at h1 h2
    rw [List.zip_cons_cons, List.lookup_cons]
    have : (x == p) = false := by
      rw [beq_eq_false_iff_ne]; intro e; subst e
      exact (List.nodup_cons.mp nd).1 (List.mem_of_getElem? h1)
    rw [this]
    exact lookup_zipAt (List.nodup_cons.mp nd).2 h1 h2

/-! ### the stores self.f = a, one after another -/
def okA (x : Str) : Bool := !(x == ("__debug__" : Str)) && !(x == ("__classdict__" : Str))
def restB (a0 : Str) : List Str → List Str → List Stmt → Bool
  | [], [], [] => true
  | a :: as, f :: ns, .Assign [.Attribute (.Name b _) g _] (.Name c _) _ :: r => decide (b = a0) && decide (g = f) && decide (c = a) && okA a && restB a0 as ns r
  | _, _, _ => false
def tRs (K : PySem.W.Frag) : Nat → List Str → TS
  | _, [] => tNext
  | j, f :: ns => tSeq (tOst K f (tVar 0) (tVar j)) (tRs K (j + 1) ns)
theorem rest_run {X : Cx} {a0 : Str} {ps : List Str} (h0 : X.N = a0 :: ps) (hv : ∀ x ∈ a0 :: ps, X.env.scope.names.lookup x = some .local) (ha0 : okA a0 = true) : ∀ {as ns : List Str} {rest : List Stmt} {pre : List Str}, ps = pre ++ as → restB a0 as ns rest = true → PSs X rest (tRs X.K (pre.length + 1) ns)
  | [], [], [], pre, _, _ => pss_nil
  | [], _ :: _, _, _, _, h => by simp [restB] at h
  | [], [], _ :: _, _, _, h => by simp [restB] at h
  | _ :: _, [], _, _, _, h => by simp [restB] at h
  | _ :: _, _ :: _, [], _, _, h => by simp [restB] at h
  | a :: as, f :: ns, s :: r, pre, hp, h => by
    unfold restB at h
    split at h
    · cases ‹_ :: _ = []›
    · rename_i e1 e2 e3
      cases e1; cases e2; cases e3
      rename_i b _ g _ c _ _
      simp only [Bool.and_eq_true, decide_eq_true_eq] at h
      obtain ⟨⟨⟨⟨rfl, rfl⟩, rfl⟩, hk⟩, hr⟩ := h
      simp only [okA, Bool.and_eq_true, Bool.not_eq_true'] at hk ha0
      have i0 : X.N[0]? = some b := by rw [h0]; rfl
      have ij : X.N[pre.length + 1]? = some c := by rw [h0, hp]; simp
      have hc : X.env.scope.names.lookup c = some .local := hv c (by rw [hp]; simp)
      have ih := rest_run h0 hv (by simp [okA, ha0.1, ha0.2]) (pre := pre ++ [c]) (by rw [hp]; simp) hr
      rw [List.length_append] at ih
      exact pss_cons (ps_ost (pe_var (i := 0) i0 (.inl (hv b (by simp))) ha0.1 ha0.2) (pe_var (i := pre.length + 1) ij (.inl hc) hk.1 hk.2)) ih
    · cases h
theorem upd_swap {H : Hp} {a dx : Addr} {o1 o2 o3 : HO} (h : dx ≠ a) : upd (upd (upd H dx o1) a o2) dx o3 = upd (upd H dx o3) a o2 := by
  funext b
  by_cases hb : b = dx
  · subst hb; rw [upd_same, upd_ne h, upd_same]
  · rw [upd_ne hb]
    by_cases ha : b = a
    · subst ha; rw [upd_same, upd_same]
    · rw [upd_ne ha, upd_ne ha, upd_ne hb, upd_ne hb]
theorem tRs_old {K : PySem.W.Frag} {C a dx : Addr} {D : Ends} {σ : L2.St} {H0 : Hp} (T : OexC K C) (hne : dx ≠ a) (h0 : σ[0]? = some (some (.ref a))) : ∀ {ns : List Str} {ys : List V} {j : Nat} {fs : List (Str × V)}, (∀ f ∈ ns, PySem.W.findIn K (.ref C) f = some none) → ys.length = ns.length → (∀ i, i < ys.length → σ[j + i]? = some (ys[i]?)) → fs.length + ns.length ≤ 900 →
    D.nx σ (upd (upd H0 dx (exd dx ((ns.zip ys).reverse ++ fs))) a (exo a C (some dx))) → tRs K j ns D σ (upd (upd H0 dx (exd dx fs)) a (exo a C (some dx)))
  | [], ys, j, fs, _, _, _, _, q => q
  | f :: ns, [], j, fs, _, hl, _, _, _ => by simp at hl
  | f :: ns, y :: ys, j, fs, hf, hl, hs, hle, q => by
    have hj := hs 0 (by simp)
    simp only [Nat.add_zero, List.getElem?_cons_zero] at hj
    refine ⟨y, hj, .ref a, h0, a, C, rfl, T, hf f (List.mem_cons_self ..), .inr ⟨dx, fs, upd_same, by rw [upd_ne hne, upd_same], by simp at hle; omega, ?_⟩⟩
    rw [upd_swap hne]
    refine tRs_old T hne h0 (fun g hg => hf g (List.mem_cons_of_mem _ hg)) (by simpa using hl) (fun i hi => ?_) (by simp at hle ⊢; omega) ?_
    · have := hs (i + 1) (by simpa using hi)
      rw [show j + (i + 1) = j + 1 + i by omega, List.getElem?_cons_succ] at this
      exact this
    · rw [List.zip_cons_cons, List.reverse_cons, List.append_assoc] at q
      exact q
theorem tRs_new {K : PySem.W.Frag} {C a : Addr} {D : Ends} {σ : L2.St} {H : Hp} (T : OexC K C) (h0 : σ[0]? = some (some (.ref a))) (ea : H a = some (exo a C none)) {ns : List Str} {ys : List V} {j : Nat} (hn : ns ≠ []) (hf : ∀ f ∈ ns, PySem.W.findIn K (.ref C) f = some none) (hl : ys.length = ns.length) (hs : ∀ i, i < ys.length → σ[j + i]? = some (ys[i]?)) (hle : ns.length ≤ 900)
    (q : ∀ dx, H dx = none → dx ≠ a → D.nx σ (upd (upd H dx (exd dx (ns.zip ys).reverse)) a (exo a C (some dx)))) : tRs K j ns D σ H := by
  match ns, ys, hn, hl with
  | f :: ns, y :: ys, _, hl =>
    have hj := hs 0 (by simp)
    simp only [Nat.add_zero, List.getElem?_cons_zero] at hj
    refine ⟨y, hj, .ref a, h0, a, C, rfl, T, hf f (List.mem_cons_self ..), .inl ⟨ea, fun dx n hne => ?_⟩⟩
    refine tRs_old T hne h0 (fun g hg => hf g (List.mem_cons_of_mem _ hg)) (by simpa using hl) (fun i hi => ?_) (by simp at hle ⊢; omega) ?_
    · have := hs (i + 1) (by simpa using hi)
      rw [show j + (i + 1) = j + 1 + i by omega, List.getElem?_cons_succ] at this
      exact this
    · have := q dx n hne
      rw [List.zip_cons_cons, List.reverse_cons] at this
      exact this

theorem exinit_ok {P : Program} {w : World} {K : PySem.W.Frag} {mg : Str → Option Value} {base : Heap} {CX : CXT} {k : Nat} {f cc cda C : Addr} {name qual a0 text : Str} {as ns : List Str} {rest : List Stmt} {params : Arguments} {scope : Scope} {oc dV kV doc pm ct cl ccl : Value} {an od cld cdd : Option Addr} {osl csl ccs : Array (Option Value)}
    {p0 p1 p2 p4 p5 pos : Pos} {p3 : Nat} {vs : Array Value} {file : Str} {tf : Tok} {cdC : ClassData} {ar : Arg} {fd : FuncData}
    (lk : K.lookup f = some ⟨oc, od, .func fd, osl⟩)
    (hfd : fd = ksFn name qual params (.Expr (.Call (.Attribute (.Call (.Name "super" p0) [] [] p1) "__init__" p2) [.Constant (.str text) p3 p4] [] pos) p5 :: rest) scope dV kV doc pm an (.ref cda) ct cc)
    (hcd : codeIn K (.ref cda) qual = true) (hcc : K.lookup cc = some ⟨cl, cld, .cell (some (.ref C)), csl⟩) (hcode : K.lookup cda = some ⟨ccl, cdd, .fields vs, ccs⟩) (hvs : vs[2]? = some (.str file tf))
    (hkd : scope.kind = .function) (hco : scope.isCoroutine = false) (hgen : scope.isGenerator = false) (nps : (a0 :: as).Nodup) (nloc : ∀ x ∈ a0 :: as, scope.names.lookup x = some .local) (fr : ∀ y ∈ scope.names, y.2 ≠ .cell ∧ (y.2 = .free → y.1 = ("__class__" : Str)))
    (hks : scope.names.lookup ("super" : Str) = some .globalImplicit) (hkc : scope.names.lookup ("__class__" : Str) = some .free) (hpar : (params.posonlyargs ++ params.args).head? = some ar) (har : ar.arg = a0)
    (hfile : ((P.main.file : Str) == file) = true) (htop : (P.main.scope.names.lookup ("super" : Str)).isSome = false) (hmg : mg "super" = none)
    (T : OexC K C) (hC : clsIn K C = some cdC) (hno : nsIn K cStatics "thirdparty.any" = some none) (hm : ks_superIn K C C "__init__" = some (some (.builtin "ValueError.__init__"))) (hB : subIn K (.ref C) (.type "ValueError") = some true) (hsub : mroIn K C (.ref C) = some true)
    {pl : Addr → Sem Bool} (hev : ∀ L : Addr, eval (.Call (.Attribute (.Call (.Name "super" p0) [] [] p1) "__init__" p2) [.Constant (.str text) p3 p4] [] pos) (ksEnv qual scope L f (.ref cda) cc) = (do
      let ov ← attributeBase (.Call (.Name "super" p0) [] [] p1) "__init__" (ksEnv qual scope L f (.ref cda) cc) (eval (.Call (.Name "super" p0) [] [] p1) (ksEnv qual scope L f (.ref cda) cc))
      standAt p2.atName
      let (f', first) ← holding [ov] (getMethod ov "__init__" (pl L))
      callWith pos f' first (backTo pos (starEach [.Constant (.str text) p3 p4] (ksEnv qual scope L f (.ref cda) cc))) []))
    (ha0 : okA a0 = true) (hrest : restB a0 as ns rest = true) (hn : ns ≠ []) (hnd : ns.Nodup) (hle : ns.length ≤ 900) (hal : as.length = ns.length)
    (hfl : ∀ f ∈ ns, PySem.W.findIn K (.ref C) f = some none) : FnOk P w K mg base CX (k + 1) f fd (a0 :: as) (spX C ns) := by
  subst hfd
  refine ⟨fun vs H Q E ⟨a, ys, e, hl, _⟩ => by rw [e]; simp [hl, hal], fun A outer s H args us vs' Q E hr e0 hb r ⟨a, ys, ev, hl, ea, q⟩ => ?_⟩
  subst ev
  have KX : K.In s.heap := e0.mod.kin.keeps fun b o e => (e0.bs b o e).1
  have lim : s.heap.NoLimit := e0.mod.nolimit.keeps fun b o e => (e0.bs b o e).1
  have hul : us.length = (a0 :: as).length := by rw [← r.length]; simp [hl, hal]
  have ndz : (((a0 :: as).zip us).map (·.1)).Nodup := by rw [List.map_fst_zip (by omega)]; exact nps
  refine ks_codeAny_call_defAt hr.depth (KX _ _ lk) rfl lim (codeRec_of KX hcd) rfl hb (fun x hx => (fr x hx).1) (fun x hx => nloc _ (List.of_mem_zip (a := x.1) (b := x.2) hx).1) (fun h1 hns hk => ?_) hco hgen hkd
  have hma : ∀ (i : Nat) x v, (a0 :: as)[i]? = some x → (V.ref a :: ys)[i]? = some v → ∃ u, ((a0 :: as).zip us).reverse.lookup x = some u ∧ RelV v u := fun i x v e1 e2 => by
    obtain ⟨u, hu, ru⟩ := Vals.get r e2
    exact ⟨u, by rw [lookup_rev ndz]; exact lookup_zipAt nps e1 hu, ru⟩
  have I : Inv (cxS CX P w K mg base (a0 :: as) qual scope f (.ref cda) cc A outer s H E) [] ((V.ref a :: ys).map some) H { s with heap := h1, toks := s.toks + ((a0 :: as).zip us).length } :=
    inv_startS (us := us) hkd nps nloc fr hcc hr.hd e0 (by simp [hl, hal]) hns hma hk
  have KX1 : K.In h1 := KX.keeps hk
  obtain ⟨t1, hea⟩ := exo_at I.hok ea
  have n0 : scope.names.lookup a0 = some .local := nloc a0 (List.mem_cons_self ..)
  refine ks_wpAt_execs_cons (ks_wpAt_Expr_any (super_init (K := K) (C := C) (x := a) (cc := cc) T KX1 hea hks hkc rfl (KX1 _ _ lk) rfl hpar rfl (KX1 _ _ hcode) rfl hvs hfile htop hC hno hm hB hsub ?_ ?_ ?_ (fun h' t2 tk' k e' => ?_) (hev _)) ?_ ?_)
  · intro tk' Q' q'
    obtain ⟨mb, b1, b2⟩ := e0.mod.blt
    have up : ∀ b o, base.get? b = some o → h1.get? b = some o := fun b o e => hk _ _ (e0.bs b o e).1
    exact ks_loadName_global hkd hks (Calls.loadGlobal_builtin (e0.mod.glob.keeps up) hmg (b1.keeps up) ((b2 _ (by decide)).trans PyProof.Rows.Boot.«super») q')
  · intro tk' Q' q'
    exact wpAny_loadName_free hkd hkc rfl ⟨_, KX1 _ _ hcc, rfl⟩ q'
  · intro tk' Q' q'
    rw [har]
    obtain ⟨u, hu, ru⟩ := hma 0 a0 (.ref a) rfl rfl
    cases (show u = .ref a from ru)
    exact wpAny_loadName_local hkd n0 hns hu q'
  · have eu : upd H a (exo a C none) = H := by
      funext b
      by_cases hb : b = a
      · rw [hb, upd_same, ea]
      · rw [upd_ne hb]
    have J := I.write (h' := h') (t' := tk') (x := a) (e := a) (o := exo a C none) (by rw [ea]; exact True.intro) (.inl rfl) k ⟨_, e'⟩ (exo_ok e')
    rw [eu] at J
    refine wpAt_of_wpAny (wpAny_mono ((rest_run (X := cxS CX P w K mg base (a0 :: as) qual scope f (.ref cda) cc A outer s H E) (pre := []) rfl nloc ha0 rfl hrest).run [] _ _ H { nx := fun _ H' => Q .non H', rt := Q } J ?_) (fun fl s' z => ?_) fun _ _ z => z)
    · refine tRs_new T rfl ea hn hfl hl (fun i hi => ?_) hle fun dx hdx hne => q dx _ hdx hne fun f => ?_
      · rw [List.length_nil, Nat.zero_add, Nat.add_comm, List.map_cons, List.getElem?_cons_succ, List.getElem?_map, List.getElem?_eq_getElem hi]; rfl
      · exact lookup_rev (by rw [List.map_fst_zip (by omega)]; exact hnd) f
    · cases fl with
      | ret u =>
        obtain ⟨v, σ', H', J, rv, q⟩ := z
        exact ⟨v, H', J.os, J.bare, J.base, J.hok, rv, q⟩
      | next =>
        obtain ⟨σ', H', J, q⟩ := z
        exact ⟨.non, H', J.os, J.bare, J.base, J.hok, rfl, q⟩
      | brk =>
        obtain ⟨_, _, _, q⟩ := z
        exact q.elim
      | cont =>
        obtain ⟨_, _, _, q⟩ := z
        exact q.elim
  · show interactive (ksEnv qual scope s.heap.objs.size f (.ref cda) cc) = false
    unfold interactive
    simp [hkd]
  · rfl
end L2
/-! Exceptions as tracked values: an exception that was caught, or only made, is an object of the abstract heap. -/
set_option autoImplicit false
set_option linter.all false
set_option maxRecDepth 100000
namespace Mi
open PySem L2
/-- an exception as a value, of the class at C, its dict at dx -/
def exv (a C dx : Addr) : HO := .ext fun h => ∃ (oe : Obj) (vs : Array Value), h.get? a = some oe ∧ Zc (.ref C) (some dx) oe ∧ oe.data = .fields vs
theorem exv_dK {a C dx : Addr} : ∀ kvs : List (L2.Key × V), exv a C dx ≠ .dK kvs := fun kvs z => by
  have z' : HO.ext _ = HO.dK kvs := z
  cases z'
theorem exv_ok {P : Program} {w : World} {H : Hp} {h : Heap} {a C dx : Addr} {oe : Obj} {vs : Array Value} (e : h.get? a = some oe) (z : Zc (.ref C) (some dx) oe) (d : oe.data = .fields vs) : ObjOk P w H h a (exv a C dx) :=
  ⟨⟨oe, vs, e, z, d⟩, ⟨oe, e⟩, fun _ _ ⟨o, v, q, r⟩ k => ⟨o, v, k o q, r⟩⟩
section
variable {X : Cx} {pins : List (Addr × Obj)} {σ : St} {H : Hp} {s : Shared} {a : Addr}
/-- an object that stands already is tracked from now on -/
theorem track {o : HO} (I : L2.Inv X pins σ H s) (na : H a = none) (n0 : ∀ o, X.s_0.heap.get? a = some o → a ∉ X.ex → False) (ob : ObjOk X.prog X.w (upd H a o) s.heap a o) (nl : X.env.locals ≠ a) (nc : ∀ x c, X.env.cells.lookup x = some c → c ≠ a) (np : ∀ p ∈ X.pn ++ pins, p.1 ≠ a) : L2.Inv X pins σ (upd H a o) s := by
  have ne0 : ∀ {b : Addr} {u : Obj}, X.s_0.heap.get? b = some u → b ∉ X.ex → b ≠ a := fun {b u} e hx z => n0 u (z ▸ e) (z ▸ hx)
  refine ⟨I.ok, I.os, I.bare, ⟨I.base.keep, I.base.slot, fun b u e n hx => ?_, I.base.there, fun b xs e => ?_, fun b u xs e => ?_, fun b ps e => ?_⟩, I.loc, I.cell, ?_, fun x c e => ?_, fun p hp => ?_, fun b u e => ?_, I.len⟩
  · rw [upd_ne (ne0 e hx)]; exact I.base.free b u e n hx
  · have q := I.base.tups b xs e
    rw [upd_ne (ne_of_none q na)]; exact q
  · have q := I.base.frzs b u xs e
    rw [upd_ne (ne_of_none q na)]; exact q
  · obtain ⟨m, q⟩ := I.base.tbls b ps e
    exact ⟨m, by rw [upd_ne (ne_of_none q na)]; exact q⟩
  · rw [upd_ne nl]; exact I.free
  · rw [upd_ne (nc x c e)]; exact I.freeC x c e
  · obtain ⟨e, n, ne, nf, d⟩ := I.pin p hp
    exact ⟨e, by rw [upd_ne (np p hp)]; exact n, ne, nf, d⟩
  · exact (HOk.laidN I.hok (fun b u q => q) na ob) b u e
/-- .. an object that did not stand in an earlier state of ours -/
theorem track_new {o : HO} {sI : Shared} {H0 : Hp} {pins0 : List (Addr × Obj)} {σ0 : St} (J : L2.Inv X pins0 σ0 H0 sI) (hp : ∀ p ∈ pins, p ∈ pins0) (ha : sI.heap.get? a = none) (I : L2.Inv X pins σ H s) (na : H a = none) (ob : ObjOk X.prog X.w (upd H a o) s.heap a o) : L2.Inv X pins σ (upd H a o) s := by
  refine track I na ?_ ob (fun z => ?_) (fun x c e z => ?_) (fun p hp' z => ?_)
  · intro u e hx
    obtain ⟨o', q⟩ := J.base.there a u e hx
    rw [ha] at q; cases q
  · obtain ⟨m, ⟨oL, _, _, e, _⟩, _⟩ := J.loc
    rw [z, ha] at e; cases e
  · obtain ⟨v, oC, e2, _⟩ := J.cell x c e
    rw [z, ha] at e2; cases e2
  · have hm : p ∈ X.pn ++ pins0 := (List.mem_append.mp hp').elim (fun m => List.mem_append_left _ m) fun m => List.mem_append_right _ (hp p m)
    obtain ⟨e, _⟩ := J.pin p hm
    rw [z, ha] at e; cases e
theorem inv_suite (I : L2.Inv X pins σ H s) (a : Addr) : L2.Inv (X.suite a (X.pn ++ pins)) [] σ H s :=
  ⟨I.ok.suite _ _, I.os, I.bare, I.base, I.loc, I.cell, I.free, I.freeC, fun p hp => I.pin p (by rw [List.append_nil] at hp; exact hp), I.hok, I.len⟩
theorem inv_unsuite {pn' : List (Addr × Obj)} (I : L2.Inv (X.suite a (X.pn ++ pins)) pn' σ H s) (ok : X.Ok) : L2.Inv X pins σ H s :=
  ⟨ok, I.os, I.bare, I.base, I.loc, I.cell, I.free, I.freeC, fun p hp => I.pin p (List.mem_append_left _ hp), I.hok, I.len⟩
end
/-- o.f of an exception that is a value -/
theorem pe_xfV {X : Cx} {e : Expr} {te : TE} {pos : Pos} {n : Str} (he : PE X e te) (hb : attributeBase e n X.env (eval e X.env) = eval e X.env) :
    PE X (.Attribute e n pos) (fun σ H Q => te σ H fun x H1 => ∃ (a C dx : Addr) (fs : List (Str × V)) (v : V), x = .ref a ∧ H1 a = some (exv a C dx) ∧ XfC X.K C ∧ PySem.W.findIn X.K (.ref C) n = some none ∧ H1 dx = some (.xd fs) ∧ fs.lookup n = some v ∧ Q v H1) := by
  refine ⟨fun pins s σ H Q I h => ?_⟩
  refine attr_of hb (thn (he.run pins s σ H _ I h) fun u s1 hh => ?_)
  obtain ⟨x, H1, I1, rx, a, C, dd, fs, v, ex, hv, T, onN, ea, l, q⟩ := hh
  subst ex
  obtain rfl : u = Value.ref a := rx
  obtain ⟨⟨oe, vs, ha, hz, hd⟩, _, _⟩ := I1.hok a _ hv
  have hx : ObjOk X.prog X.w H1 s1.heap dd (.xd fs) := I1.hok dd _ ea
  obtain ⟨mD, nsD, hr⟩ := hx
  obtain ⟨obD, ho, hl⟩ := lookIn_ns nsD
  obtain ⟨u, hu, ru⟩ := RelO.some_of (v := v) (o := mD n) (by rw [← l]; exact hr n)
  have J : PySem.W.InstAt s1.heap a oe C (some obD) := ⟨ha, hz.1, by unfold PySem.W.notCls; rw [hd] <;> rfl, by rw [hz.2]; exact ho⟩
  exact HandSPX.exc_get I1.kIn J T.ga T.gg T.exC (PySem.W.findObj_own T.hdC onN rfl (by rw [hl, hu])) (handed_of ru) ⟨v, H1, I1.tok _, ru, q⟩
/-- an exception made is a value -/
theorem pe_of_pmk {X : Cx} {e : Expr} {t : St → Hp → XK → Prop} (h : PMk X e t) : PE X e (fun σ H Q => t σ H fun cls d H' => ∃ C dx, cls = .ref C ∧ d = some dx ∧ ∀ a, H' a = none → Q (.ref a) (upd H' a (exv a C dx))) := by
  refine ⟨fun pins s σ H Q I ht => ?_⟩
  refine wpAny_mono (h pins s σ H _ I ht) (fun u s1 hu => ?_) fun _ _ x => x
  obtain ⟨a, oe, vs, sB, H', cls, d, rfl, J, k, hne, ha, hz, hd, h1, na, os, ag, r, C, dx, rfl, rfl, q⟩ := hu
  have J1 : L2.Inv X pins σ H' s1 := J.landed (B := s1.heap) (fun b o e _ => k b o e) (fun b o e => e) (fun b o e _ => ⟨o.slots, k b o e⟩) os ag
  exact ⟨.ref a, _, track_new J (fun p hp => hp) hne J1 na (exv_ok ha hz hd), rfl, q a na⟩

/-! ### try -/
/-- the ends of a suite: the name of the clause goes -/
def endV (D : Ends) : Option Nat → Ends
  | none => D
  | some i => { nx := fun σ' H' => D.nx (σ'.set i none) H', rt := D.rt, bk := fun σ' H' => D.bk (σ'.set i none) H', ct := fun σ' H' => D.ct (σ'.set i none) H' }
def setV (σ : St) (a : Addr) : Option Nat → St
  | none => σ
  | some i => σ.set i (some (.ref a))
/-- what the clauses wish of an exception of the body -/
def wTry (K : PySem.W.Frag) (Wout : WX) (D : Ends) : List (Value × Option Nat × TS) → WX
  | [] => Wout
  | (c, oi, ts) :: r => fun cls d σ H => ∃ b, PySem.W.exmOne K cls c = some b ∧ (b = true → ∃ C dx, cls = .ref C ∧ d = some dx ∧ ∀ a, H a = none → ts (endV D oi) (setV σ a oi) (upd H a (exv a C dx))) ∧ (b = false → wTry K Wout D r cls d σ H)
inductive HdV (X : Cx) : List ExceptHandler → List (Value × Option Nat × TS) → Prop
  | nil : HdV X [] []
  | plain {x : Str} {c : Value} {ts : TS} {b₀ : Stmt} {suite : List Stmt} {np pos' : Pos} {hds : List ExceptHandler} {l : List (Value × Option Nat × TS)} (hc : Names X x c)
      (hsu : ∀ (a : Addr) (pn : List (Addr × Obj)), PSs (X.suite a pn) (b₀ :: suite) ts) (r : HdV X hds l) :
      HdV X (.ExceptHandler (some (.Name x np)) none (b₀ :: suite) pos' :: hds) ((c, none, ts) :: l)
  | named {x n : Str} {i : Nat} {c : Value} {ts : TS} {b₀ : Stmt} {suite : List Stmt} {np pos' : Pos} {hds : List ExceptHandler} {l : List (Value × Option Nat × TS)} (hc : Names X x c) (hi : X.N[i]? = some n) (hln : X.env.kindOf n = some .local)
      (hsu : ∀ (a : Addr) (pn : List (Addr × Obj)), PSs (X.suite a pn) (b₀ :: suite) ts) (r : HdV X hds l) :
      HdV X (.ExceptHandler (some (.Name x np)) (some n) (b₀ :: suite) pos' :: hds) ((c, some i, ts) :: l)
section
variable {X : Cx} {body : List Stmt} {h₀ : ExceptHandler} {hds : List ExceptHandler} {l : List (Value × Option Nat × TS)} {pos : Pos} {tb : WX → TS} {Wout : WX}
theorem ps_tryV (hs : X.stack = X.env :: X.outer) (hf : X.env.frame = some X.env.locals) (hN : X.N.Nodup) (tk : Takes X Wout)
    (hb : ∀ (W : WX) (pn : List (Addr × Obj)) (xe : Value → Shared → Prop), Takes (X.tr pn xe) W → PassesOwn (model X.prog X.w) X.A X.env xe → PSs (X.tr pn xe) body (tb W))
    (hh : HdV X (h₀ :: hds) l) : PS X (.Try body (h₀ :: hds) [] [] pos) (fun D σ H => tb (wTry X.K Wout D l) D σ H) := by
  refine ⟨fun pins s σ H D I h => ?_⟩
  have ok := I.ok
  have frA : X.A.frames = some (X.env :: X.outer) := by rw [ok.frames, hs]
  refine wpAny_Try_except ?_
  refine wpAny_mono ((hb (wTry X.K Wout D l) (X.pn ++ pins) (fun e s₁ => wpAny (model X.prog X.w) X.A (noteFrame e X.env) (fun _ s₂ => wpAny (model X.prog X.w) X.A (setFlight e none) (fun _ s₃ =>
    wpAny (model X.prog X.w) X.A (handleBy e X.env (h₀ :: hds)) (SP X pins D) X.xe s₃) X.xe s₂) X.xe s₁) (fun u s' xx => ?_) PassesOwn.looking).run [] s σ H D (I.toTry _) h) (fun f s1 endS => ?_) (fun e s1 he => he)
  · -- the catch
    obtain ⟨a, B, sB, pins', σ', H', cls, d, rfl, J', nbW, up, skyW, na, os, ag, w⟩ := xx
    have J : L2.Inv X pins σ' H' sB := J'.ofTry ok
    have sky' : Sky B (X.env :: X.outer) a (Zc cls d) X.env.locals s'.heap := by rw [← hs]; exact skyW
    show wpAny (model X.prog X.w) X.A (noteFrame (.ref a) X.env) _ _ _
    refine Sky.land Zc.steady frA hf sky' fun hpA flA upA => ?_
    have JA : L2.Inv X pins σ' H' { s' with heap := hpA } := J.landed nbW flA.1 (up.trans upA) os ag
    obtain ⟨obA, vA, geA, zcA, daA⟩ := flA.there
    have offF : ∀ {h : Heap} {o : Obj} {vs : Array Value}, h.FunFrames B (X.env :: X.outer) → h.get? a = some o → o.data = .fields vs → a ∉ frs (X.env :: X.outer) := fun {h o vs} ff e dd hm => by
      obtain ⟨_, o', e', hnf⟩ := ff.mem hm
      rw [e] at e'; cases e'
      exact hnf _ dd
    have offA := offF flA.2.2.1 geA daA
    have naB : sB.heap.get? a = none := by
      cases e : sB.heap.get? a with
      | none => rfl
      | some o =>
        have z := nbW a o e (by rw [hs]; exact offA)
        rw [flA.2.1] at z; cases z
    have SA := inv_suite JA a
    have go : ∀ {hds' : List ExceptHandler} {l' : List (Value × Option Nat × TS)}, HdV X hds' l' → wTry X.K Wout D l' cls d σ' H' →
        wpAny (model X.prog X.w) X.A (handleBy (.ref a) X.env hds') (SP X pins D) X.xe { s' with heap := hpA } := by
      intro hds' l' hk
      have asks : ∀ {x : Str} {c : Value} {np : Pos} {Q : Value → Shared → Prop} {E : Value → Shared → Prop}, Names X x c → Q c { s' with heap := hpA } → wpAny (model X.prog X.w) (X.A.mark (some (.ref a))) (eval (.Name x np) X.env) Q E { s' with heap := hpA } := fun {x c np Q E} hc q => by
        obtain ⟨hg, ndb, hm | ⟨hm, hv, nnm⟩⟩ := hc
        · exact ld_glob (X := X.suite a (X.pn ++ pins)) SA hg hm q ndb
        · exact ld_blt (X := X.suite a (X.pn ++ pins)) SA hg hm hv q nnm ndb
      have tyA : PySem.W.Looks (model X.prog X.w) hpA (typeOf (.ref a)) cls := fun A Q E s k q => wpAny_typeOf_ref (k _ _ geA) (by rw [zcA.1]; exact q)
      have lay : ∀ {hpB : Heap} {C dx : Addr}, HandSPX.FlyingZ B (X.env :: X.outer) a (Zc cls d) hpB → hpA.UpToSlots hpB → cls = .ref C → d = some dx → L2.Inv X pins σ' (upd H' a (exv a C dx)) { s' with heap := hpB } := fun {hpB C dx} flB upB ec ed => by
        have JB : L2.Inv X pins σ' H' { s' with heap := hpB } := J.landed nbW flB.1 ((up.trans upA).trans upB) os ag
        obtain ⟨obB, vB, geB, zcB, daB⟩ := flB.there
        rw [ec, ed] at zcB
        exact track_new J (fun p hp => hp) naB JB na (exv_ok geB zcB daB)
      induction hk with
      | nil =>
        intro w
        refine wpAny_handleBy_nil ?_
        obtain ⟨k1, k2, k3, oe, vs, T, oT, ts', he, hz, hd, h1, hr⟩ := id flA
        unfold PySem.passOn
        refine wpAny_bind (wpAny_field he hd h1 ?_)
        rw [if_neg (show ¬ ((Value.ref T == Value.none) = true) from by simp)]
        have goOn : wpAny (model X.prog X.w) X.A (setFlight (.ref a) X.env.frame) (fun _ s4 => wpAny (model X.prog X.w) X.A (throw (.ref a) : Sem Flow) (SP X pins D) X.xe s4) X.xe { s' with heap := hpA } := by
          rw [hf]
          refine HandSPX.setFlight_upZ flA fun hpB hh4 upB => wpAny_throw (tk _ _ ?_)
          exact ⟨a, B, sB, pins, σ', H', cls, d, rfl, J, nbW, (up.trans upA).trans upB, .inr (.inr (by rw [hs]; exact hh4)), na, os, ag, w⟩
        first
          | exact wpAny_bind (wpAny_pure (wpAny_bind goOn))
          | exact wpAny_bind goOn
      | @plain x c ts b₀ suite np pos' hds2 l2 hc hsu r ih =>
        intro w
        obtain ⟨b, isb, onY, onN⟩ := w
        refine wpAny_handleBy_cons (codeAny_handlers_test ?_) (by intro q; cases q)
        have exM := PySem.W.exm_one (M := model X.prog X.w) (JA.kIn) tyA isb
        refine asks hc (exM.here ?_)
        cases b with
        | true =>
          obtain ⟨C, dx, ec, ed, hy⟩ := onY rfl
          refine codeAny_handlers_suite ?_
          refine HandSPX.lands_againZ flA fun hpB flB upB => ?_
          have SB := inv_suite (lay flB upB ec ed) a
          refine wpAny_mono ((hsu a (X.pn ++ pins)).run [] _ _ _ _ SB (hy a na)) (fun f s6 endS => ?_) (fun _ _ z => False.elim z)
          cases f with
          | next =>
            obtain ⟨σz, Hz, Iz, wz⟩ := endS
            exact ⟨_, _, inv_unsuite Iz ok, wz⟩
          | brk =>
            obtain ⟨σz, Hz, Iz, wz⟩ := endS
            exact ⟨_, _, inv_unsuite Iz ok, wz⟩
          | cont =>
            obtain ⟨σz, Hz, Iz, wz⟩ := endS
            exact ⟨_, _, inv_unsuite Iz ok, wz⟩
          | ret u =>
            obtain ⟨vz, σz, Hz, Iz, rz, wz⟩ := endS
            exact ⟨_, _, _, inv_unsuite Iz ok, rz, wz⟩
        | false =>
          show wpAny _ X.A (handleBy (.ref a) X.env hds2) _ _ _
          exact ih (onN rfl)
      | @named x n i c ts b₀ suite np pos' hds2 l2 hc hi hln hsu r ih =>
        intro w
        obtain ⟨b, isb, onY, onN⟩ := w
        refine wpAny_handleBy_cons (codeAny_handlers_test ?_) (by intro q; cases q)
        have exM := PySem.W.exm_one (M := model X.prog X.w) (JA.kIn) tyA isb
        refine asks hc (exM.here ?_)
        cases b with
        | true =>
          obtain ⟨C, dx, ec, ed, hy⟩ := onY rfl
          have hloc : L2.Loc X.env.scope n := .inl hln
          refine codeAny_handlers_suite_as ?_
          refine HandSPX.lands_againZ flA fun hpB flB upB => ?_
          have SB := inv_suite (lay flB upB ec ed) a
          refine store_ok (X := X.suite a (X.pn ++ pins)) (v := .ref a) SB hN hi hloc rfl (fun s5 S5 => ?_) (.inr hln)
          refine wpAny_mono ((hsu a (X.pn ++ pins)).run [] s5 _ _ _ S5 (hy a na)) (fun f s6 endS => ?_) (fun _ _ z => False.elim z)
          have end_ : ∀ {σz : St} {Hz : Hp} {Q : Shared → Prop}, L2.Inv (X.suite a (X.pn ++ pins)) [] σz Hz s6 → (∀ sz, L2.Inv X pins (σz.set i none) Hz sz → Q sz) →
              wpAny (model X.prog X.w) X.A (do bindName X.env n .none; unbindBehindTheSuite X.env n pos') (fun _ sz => Q sz) X.xe s6 := fun {σz Hz Q} Iz hq => gone_ok (inv_unsuite Iz ok) hN hi hln hq
          cases f with
          | next =>
            obtain ⟨σz, Hz, Iz, wz⟩ := endS
            exact end_ Iz fun sz Jz => ⟨_, _, Jz, wz⟩
          | brk =>
            obtain ⟨σz, Hz, Iz, wz⟩ := endS
            exact end_ Iz fun sz Jz => ⟨_, _, Jz, wz⟩
          | cont =>
            obtain ⟨σz, Hz, Iz, wz⟩ := endS
            exact end_ Iz fun sz Jz => ⟨_, _, Jz, wz⟩
          | ret u =>
            obtain ⟨vz, σz, Hz, Iz, rz, wz⟩ := endS
            exact end_ Iz fun sz Jz => ⟨_, _, _, Jz, rz, wz⟩
        | false =>
          show wpAny _ X.A (handleBy (.ref a) X.env hds2) _ _ _
          exact ih (onN rfl)
    exact go hh w
  · cases f with
    | next =>
      obtain ⟨σ', H', J', q⟩ := endS
      exact wpAny_execs_nil ⟨σ', H', J'.ofTry ok, q⟩
    | brk =>
      obtain ⟨σ', H', J', q⟩ := endS
      exact ⟨σ', H', J'.ofTry ok, q⟩
    | cont =>
      obtain ⟨σ', H', J', q⟩ := endS
      exact ⟨σ', H', J'.ofTry ok, q⟩
    | ret u =>
      obtain ⟨v, σ', H', J', r, q⟩ := endS
      exact ⟨v, σ', H', J'.ofTry ok, r, q⟩
end
end Mi
/-! Exceptions made with keywords; isinstance of them. -/
set_option autoImplicit false
set_option linter.all false
set_option maxRecDepth 100000
set_option maxHeartbeats 2000000
namespace PySem
namespace HandSPX
section
variable {M : Model} {A : Around} {E : Value → Shared → Prop} {h : Heap} {g : Array GenState} {d : Drawn} {t : Nat} {os : OsState}
variable {nm q : Str} {C N : Addr} {bs bm bmB : List Value} {hdct : Bool} {sn : List Str} {sub : List Value} {ab : Bool} {col : Option Bool} {dd : Option Addr} {k0 k1 k2 k3 k5 : Option Value} {B newId initId : String}
theorem chk_newK (F : ExcBaseFacts B newId initId bmB) (hT : ∀ X : String, bm.contains (.type X) = bmB.contains (.type X)) {rest : List Value} {kw : List (Str × Value)} {Q : Unit → Shared → Prop}
    (hC : h.get? C = some (excClassObj nm q C N bs bm hdct sn sub ab col dd k0 k1 k2 k3 k5 newId)) (hq : Q () ⟨h, g, d, t, os⟩) : wpAny M A (checkBuiltinCall newId ⟨.ref C :: rest, kw⟩) Q E ⟨h, g, d, t, os⟩ := by
  have c1 : (Value.ref C :: bm).contains (.type B) = true := by rw [List.contains_cons, hT, F.hasB, Bool.or_true]
  have c2 := F.noStar
  simp only [checkBuiltinCall, F.newKind, F.newSplit, F.newRow]
  repeat (first | refine wpAny_loadPart_at hC ?_ | (refine wpAny_isSubtype_exc hC ?_; rw [c1]) | refine wpAny_staticBase_exc hC ?_ | refine wpAny_madeBy_exc hC ?_ | simp only [bne_self_eq_false, Bool.false_eq_true, if_false] | wp_step)
  exact hq
end
section
variable {prog : Program} {w : World} {A : Around} {E : Value → Shared → Prop} {R : Result → Shared → Prop} {h : Heap} {g : Array GenState} {d : Drawn} {t : Nat} {os : OsState}
variable {nm q : Str} {C N : Addr} {bs bm bmB : List Value} {hdct : Bool} {sn : List Str} {sub : List Value} {ab : Bool} {col : Option Bool} {dd : Option Addr} {k0 k1 k2 k3 k5 : Option Value} {B newId initId : String}
theorem new_ownK (F : ExcBaseFacts B newId initId bmB) (hT : ∀ X : String, bm.contains (.type X) = bmB.contains (.type X)) {rest : List Value} {kw : List (Str × Value)}
    (hC : h.get? C = some (excClassObj nm q C N bs bm hdct sn sub ab col dd k0 k1 k2 k3 k5 newId))
    (hq : R (.ok (.ret (.ref (h.objs.size + 1)))) ⟨(h.push (W.kdv_tup rest)).push (excO C h.objs.size), g, d, t, os⟩) (hrest : rest.length ≤ sizeLine) :
    codeAny (model prog w) A (.builtin newId ⟨.ref C :: rest, kw⟩) R ⟨h, g, d, t, os⟩ := by
  have c0 := F.ends
  have cB : (Value.ref C :: bm).contains (.type B) = true := by rw [List.contains_cons, hT, F.hasB, Bool.or_true]
  have cA : (Value.ref C :: bm).contains (.type "AttributeError") = false := by rw [List.contains_cons, hT, F.noAttr]; rfl
  have cN : (Value.ref C :: bm).contains (.type "NameError") = false := by rw [List.contains_cons, hT, F.noName]; rfl
  refine codeAny_builtinAt F.entry (show wpAt _ _ _ (Builtin.«BaseException.__new__» _) _ _ _ from ?_)
  unfold Builtin.«BaseException.__new__»
  refine wpAt_bind (show wpAt _ _ _ (stack >>= _) _ _ _ from wpAt_bind (wpAt_stack fun p below => wpAt_of_wpAny ?_))
  wp_walk
  refine wpAt_of_wpAny ?_
  rw [F.owner]
  repeat (first | with_reducible refine wpAny_madeHere_exc F.canon hC ?_ | with_reducible refine wpAny_loadPart_at hC ?_ | (with_reducible refine wpAny_isSubtype_exc hC ?_; first | rw [cB] | rw [cA] | rw [cN]) | wp_step)
  show R _ _
  rw [Heap.size_push]
  exact hq
theorem chk_typeK {M : Model} {rest : List Value} {kw : List (Str × Value)} {Q : Unit → Shared → Prop} (hC : h.get? C = some (excClassObj nm q C N bs bm hdct sn sub ab col dd k0 k1 k2 k3 k5 newId))
    (hq : Q () ⟨h, g, d, t, os⟩) : wpAny M A (checkBuiltinCall "type.__call__" ⟨.ref C :: rest, kw⟩) Q E ⟨h, g, d, t, os⟩ := by
  have f3 := tc_sub
  have hT : (⟨h, g, d, t, os⟩ : Shared).TypeIs (.ref C) "type" := ⟨_, hC, rfl⟩
  simp only [checkBuiltinCall, tc_kind, tc_split]
  repeat (any_goals (first | assumption | with_reducible refine wpAny_loadPart_at hC ?_ | with_reducible refine wpAny_onRaise ?_ | with_reducible refine wpAny_map ?_ | wp_step))
theorem type_call_ownK (F : ExcBaseFacts B newId initId bmB) (hT : ∀ X : String, bm.contains (.type X) = bmB.contains (.type X)) {rest : List Value} {kw : List (Str × Value)} {fI : Addr} {Q : Fin → Shared → Prop}
    (hC : h.get? C = some (excClassObj nm q C N bs bm hdct sn sub ab col dd k0 k1 k2 k3 k5 newId))
    (hi : W.Looks (model prog w) h (typeLookup (.ref C) "__init__") (some (.ref fI))) (hb : ∀ self, W.Looks (model prog w) h (bindSpecial (.ref fI) self) (.ref fI, [self])) (hrest : rest.length ≤ sizeLine)
    (hq : codeAny (model prog w) A (.call (.ref fI) ⟨.ref (h.objs.size + 1) :: rest, kw⟩)
      (fun r s' => match r with | .ok (.ret v) => v = .none ∧ Q (.done (.ret (.ref (h.objs.size + 1)))) s' | .ok _ => False | .error e => E e s')
      ⟨(h.push (W.kdv_tup rest)).push (excO C h.objs.size), g, d, t, os⟩) :
    wpAny (model prog w) A (Builtin.«type.__call__» ⟨.ref C :: rest, kw⟩) Q E ⟨h, g, d, t, os⟩ := by
  repeat (first | with_reducible refine wpAny_loadPart_at hC ?_ | with_reducible refine wpAny_madeBy_exc hC ?_ | wp_step)
  refine codeAny_call_builtin_code (Code.quiet_builtin _ F.quiet) (chk_newK F hT hC (new_ownK F hT hC (show wpAny _ _ _ _ _ _ from ?_) hrest))
  have up : ∀ b o, h.get? b = some o → ((h.push (W.kdv_tup rest)).push (excO C h.objs.size)).get? b = some o := fun b o e => Heap.get?_push_of_some _ (Heap.get?_push_of_some _ e)
  have upC := up _ _ hC
  have new : ((h.push (W.kdv_tup rest)).push (excO C h.objs.size)).get? (h.objs.size + 1) = some (excO C h.objs.size) := by heap_get
  have inC : (Value.ref C :: bm).contains (.ref C) = true := by simp
  have li := hi.keeps up
  have lb := (hb (.ref (h.objs.size + 1))).keeps up
  unfold isInstance
  repeat (first | with_reducible refine wpAny_loadPart_at new ?_ | (with_reducible refine wpAny_isSubtype_exc upC ?_; rw [inC]) | wp_step)
  refine (show wpAny _ _ (typeLookup (.ref C) _) _ _ _ from li.at (wpAny_holding (wpAny_bind (lb.at (wpAny_bind (wpAny_call (codeAny_mono hq fun r s' z => ?_)))))))
  rcases r with e | (v | _ | _ | _) <;> first | exact z | exact z.elim | skip
  obtain ⟨rfl, z⟩ := z
  first
    | exact wpAny_pure (wpAny_pure z)
    | (wp_walk; exact z)
theorem call_ownK (F : ExcBaseFacts B newId initId bmB) (hT : ∀ X : String, bm.contains (.type X) = bmB.contains (.type X)) {rest : List Value} {kw : List (Str × Value)} {fI : Addr}
    (hC : h.get? C = some (excClassObj nm q C N bs bm hdct sn sub ab col dd k0 k1 k2 k3 k5 newId))
    (hi : W.Looks (model prog w) h (typeLookup (.ref C) "__init__") (some (.ref fI))) (hb : ∀ self, W.Looks (model prog w) h (bindSpecial (.ref fI) self) (.ref fI, [self])) (hrest : rest.length ≤ sizeLine)
    (hq : codeAny (model prog w) (A.under (.builtin "type.__call__" ⟨.ref C :: rest, kw⟩)) (.call (.ref fI) ⟨.ref (h.objs.size + 1) :: rest, kw⟩) (W.InitBack (h.objs.size + 1) R)
      ⟨(h.push (W.kdv_tup rest)).push (excO C h.objs.size), g, d, t, os⟩) :
    codeAny (model prog w) A (.call (.ref C) ⟨rest, kw⟩) R ⟨h, g, d, t, os⟩ := by
  have f1 := tc_lookup
  have f2 := tc_bind (.ref C)
  have ty : (⟨h, g, d, t, os⟩ : Shared).TypeIs (.ref C) "type" := ⟨_, hC, rfl⟩
  refine codeAny_of_tree (show wpAny _ _ (callAny (.ref C) _) _ _ _ from ?_)
  repeat (any_goals (first | assumption | with_reducible refine wpAny_loadPart_at hC ?_ | wp_step))
  refine ⟨rfl, codeAny_call_builtin_at (Code.quiet_builtin _ (by decide +kernel)) entry_typeCall (chk_typeK hC (type_call_ownK F hT hC hi hb hrest ?_))⟩
  refine codeAny_mono hq fun r s' z => ?_
  rcases r with e | (v | _ | _ | _) <;> exact z
end
end HandSPX
end PySem
namespace Mi
open PySem L2
theorem run_excN {X : Cx} {CX' : CXT} {k n : Nat} {fI C : Addr} {fd : FuncData} {ps ks ns : List Str} {g : List Value → List Value → List Value} {gV : List V → List V → List V} {pins : List (Addr × Obj)} {σ : St} {H : Hp} {s : Shared} {Q : XK} {us ws : List Value} {vs zs ys : List V}
    (T : OexC X.K C) (iC : PySem.W.findIn X.K (.ref C) "__init__" = some (some (.ref fI))) (tI : PySem.W.typeIn X.K (.ref fI) = some (.type "function")) (F1 : L2.FnOk X.prog X.w X.K X.mg X.base CX' k fI fd ps (spX C ns)) (hr : Room (k + 1) X.A) (hb : KBn X.K fd ps (n + 1) ks g gV) (hx : Passes CX' X (fun _ _ _ => False))
    (I : L2.Inv X pins σ H s) (r : Vals vs us) (rz : Vals zs ws) (l1 : vs.length = n) (l2 : zs.length = ks.length) (hle : n ≤ 900) (hg : ∀ x, gV (x :: vs) zs = x :: ys) (hy : ys.length = ns.length)
    (q : ∀ dx fs, H dx = none → (∀ f, fs.lookup f = (ns.zip ys).lookup f) → Q (.ref C) (some dx) (upd H dx (.xd fs))) : wpAny (model X.prog X.w) X.A (call (.ref C) us (ks.zip ws)) (MkP X pins σ Q) X.xe s := by
  obtain ⟨nm, qn, N, bs, bm, sn, sub, ab, col, dd, k0, k1, k2, k3, k5, hC, hbm⟩ := T.cls
  obtain ⟨hp, gs, dr, tk, os⟩ := s
  have na : H (hp.objs.size + 1) = none := I.hok.fresh (Nat.le_succ _)
  have up : ∀ b o, hp.get? b = some o → ((hp.push (PySem.W.kdv_tup us)).push (PySem.HandSPX.excO C hp.objs.size)).get? b = some o := fun b o e => Heap.get?_push_of_some _ (Heap.get?_push_of_some _ e)
  have new : ((hp.push (PySem.W.kdv_tup us)).push (PySem.HandSPX.excO C hp.objs.size)).get? (hp.objs.size + 1) = some (PySem.HandSPX.excO C hp.objs.size) := by heap_get
  have I2 : L2.Inv X pins σ (upd H (hp.objs.size + 1) (exo (hp.objs.size + 1) C none)) ⟨(hp.push (PySem.W.kdv_tup us)).push (PySem.HandSPX.excO C hp.objs.size), gs, dr, tk, os⟩ :=
    I.laid (t' := tk) (a := hp.objs.size + 1) (o := exo (hp.objs.size + 1) C none) (h' := (hp.push (PySem.W.kdv_tup us)).push (PySem.HandSPX.excO C hp.objs.size)) up (Nat.le_succ _) (exo_ok new)
  have r1 : Vals (V.ref (hp.objs.size + 1) :: vs) (Value.ref (hp.objs.size + 1) :: us) := .cons rfl r
  have r2 := hb.rel r1 rz
  rw [hg] at r2
  have e1 : (Value.ref (hp.objs.size + 1) :: us).length = n + 1 := r1.length.symm.trans (congrArg Nat.succ l1)
  have e2 : ws.length = ks.length := rz.length.symm.trans l2
  have hus : us.length ≤ sizeLine := by
    rw [← r.length, sizeLine_eq, l1]; omega
  have hq : spX C ns (.ref (hp.objs.size + 1) :: ys) (upd H (hp.objs.size + 1) (exo (hp.objs.size + 1) C none)) (fun v H2 => v = .non ∧ ∃ (d : Addr) (fs : List (Str × V)), H2 (hp.objs.size + 1) = some (exo (hp.objs.size + 1) C (some d)) ∧ H2 d = some (exd d fs) ∧ H d = none ∧ Q (.ref C) (some d) (upd (L2.del H2 (hp.objs.size + 1)) d (.xd fs))) (fun _ _ _ => False) := by
    refine ⟨_, ys, rfl, hy, upd_same, fun dx fs hdx hne hlk => ⟨rfl, dx, fs, upd_same, ?_, ?_, ?_⟩⟩
    · rw [upd_ne hne, upd_same]
    · rw [upd_ne hne] at hdx; exact hdx
    · have hdx' : H dx = none := by rw [upd_ne hne] at hdx; exact hdx
      have e : upd (L2.del (upd (upd (upd H (hp.objs.size + 1) (exo (hp.objs.size + 1) C none)) dx (exd dx fs)) (hp.objs.size + 1) (exo (hp.objs.size + 1) C (some dx))) (hp.objs.size + 1)) dx (.xd fs) = upd H dx (.xd fs) := by
        funext b
        by_cases hb : b = dx
        · subst hb; rw [upd_same, upd_same]
        · rw [upd_ne hb, upd_ne hb]
          by_cases hba : b = hp.objs.size + 1
          · subst hba; rw [L2.del_same, na]
          · rw [L2.del_ne hba, upd_ne hba, upd_ne hb, upd_ne hba]
      rw [e]
      exact q dx fs hdx' hlk
  refine wpAny_call (PySem.HandSPX.call_ownK F.excBase_ValueError (fun Y => PySem.HandSPX.refsVE_contains Y bm hbm) (I.kIn _ _ hC) (PySem.W.looks_findIn I.kIn iC) (fun self => PySem.W.bind_fn I.kIn self tI) hus
    (codeAny_mono (F1.run _ X.stack _ _ ⟨Value.ref (hp.objs.size + 1) :: us, ks.zip ws⟩ (g (Value.ref (hp.objs.size + 1) :: us) ws) _ _ (fun _ _ _ => False) (hr.make C us (ks.zip ws)) (I2.env0.make C us (ks.zip ws)) (hb.to _ (Value.ref (hp.objs.size + 1) :: us) ws I2.kIn e1 e2) r2 hq) fun rr s' z => ?_))
  cases rr with
  | error er => exact hx pins σ _ _ er s' I2 z
  | ok fl =>
    cases fl with
    | ret u =>
      obtain ⟨v, H2, os2, bare2, un2, hok2, rv, ev, d, fs, ea, ed, hd1, q2⟩ := z
      subst ev
      obtain ⟨h2, g2, d2, t2, os'⟩ := s'
      exact ⟨rv, mk_end (raises_own T.exC T.tyC) I (Nat.le_succ _) up un2 hok2 os2 bare2 ea ed hd1 q2⟩
    | next => exact z.elim
    | brk => exact z.elim
    | cont => exact z.elim
/-- what makes an exception gives a value -/
theorem ep_of_mk {X : Cx} {pins : List (Addr × Obj)} {σ : St} {Q : VK} {R : XK} {u : Value} {s' : Shared} (hR : ∀ cls d H', R cls d H' → ∃ C dx, cls = .ref C ∧ d = some dx ∧ ∀ a, H' a = none → Q (.ref a) (upd H' a (exv a C dx))) (h : MkP X pins σ R u s') : EP X pins σ Q u s' := by
  obtain ⟨a, oe, vs, sI, H', cls, d, rfl, J, k, hne, ha, hz, hd, h1, na, os, ag, r, q0⟩ := h
  obtain ⟨C, dx, rfl, rfl, q⟩ := hR _ _ _ q0
  have J1 : L2.Inv X pins σ H' s' := J.landed (B := s'.heap) (fun b o e _ => k b o e) (fun b o e => e) (fun b o e _ => ⟨o.slots, k b o e⟩) os ag
  exact ⟨.ref a, _, track_new J (fun p hp => hp) hne J1 na (exv_ok ha hz hd), rfl, q a na⟩
end Mi
namespace PySem.W
open PySem PySem.Spec PySem.Calls PyProof.Rows
section
variable {prog : Program} {w : World} {A : Around} {E : Value → Shared → Prop} {s : Shared} {K : Frag} {x D : Addr} {ox : Obj} {od : Option Obj}
theorem findObj_dataV {C : Addr} {name : Str} {a g : Value} (hc : (clsIn K C).isSome = true) (ha : findIn K (.ref C) name = some (some a)) (hg : specialIn K a "__get__" = some (some g)) (ht : takesIn K a = some true) : findObj K C od name = some (.bind g a) := by
  obtain ⟨cd, e⟩ := Option.isSome_iff_exists.mp hc
  unfold findObj
  rw [e, Option.bind_some, ha, Option.bind_some]
  simp [hg, ht]
theorem kin_classV (T : L2.ExcC K D) (X : K.In s.heap) (I : InstAt s.heap x ox D od) {Q : Option Value → Shared → Prop} (h : Q (some (.ref D)) { s with toks := s.toks + 1 }) : wpAny (model prog w) A (getAttr? (.ref x) "__class__") Q E s := by
  have fo : findObj K D od "__class__" = some (.bind (.builtin "getset_descriptor.__get__") (.builtin "object.__class__")) := findObj_dataV (by obtain ⟨cd, hc, _⟩ := any_some T.hd; rw [hc]; rfl) T.ha T.hn T.ht
  obtain ⟨hp, g, d, t, os⟩ := s
  have l0 := I.type (M := model prog w)
  have l1 := looks_findIn (M := model prog w) X T.hg
  have l2 := looks_findIn (M := model prog w) X T.hk
  have l3 := looks_find (M := model prog w) X I fo
  have isb : Looks (model prog w) hp (isInstance (.ref x) (.type "BaseException")) true := l0.andThen (looks_subIn X T.hs)
  have b0 : (false && onTheHeap (Value.builtin "BaseException.__getattribute__")) = false := rfl
  have b2 : (Value.builtin "BaseException.__getattribute__" == Value.builtin "object.__getattribute__") = false := by decide +kernel
  have b1 : (onTheHeap (Value.ref D) && Value.builtin "BaseException.__getattribute__" == Value.builtin "object.__getattribute__") = false := by rw [b2]; rfl
  unfold getAttr? getAttrBy? getAttrBy
  refine wpAny_bind (wpAny_mkText (wpAny_bind (wpAny_attempt (wpAny_holding (wpAny_bind (l0.at (wpAny_bind (l1.at (show wpAny _ _ (if (onTheHeap (Value.ref D) && Value.builtin "BaseException.__getattribute__" == Value.builtin "object.__getattribute__") = true then _ else _) _ _ _ from ?_)))))))))
  rw [b1, if_neg Bool.false_ne_true]
  unfold getAttrByItsOwn hookBefore
  refine wpAny_bind ?_
  rw [if_pos (show onTheHeap (Value.ref D) = true from rfl)]
  refine l2.at (wpAny_bind (wpAny_attempt (wpAny_holding ?_)))
  unfold callGetattribute
  rw [b0, if_neg Bool.false_ne_true]
  unfold boundAndCalled
  rw [PySem.F.excAttr_ValueError.ga.bind (.ref x)]
  refine wpAny_bind (wpAny_pure (show wpAny _ _ (call (.builtin "BaseException.__getattribute__") [.ref x, .str "__class__" t]) _ _ _ from ?_))
  refine wpAny_call (codeAny_call_builtin PySem.F.excAttr_ValueError.ga.plain PySem.F.entry_bexc_ga (@check_slot (model prog w) _ _ ⟨hp, g, d, t + 1, os⟩ "BaseException.__getattribute__" "BaseException" "__getattribute__" (.ref x) [.str "__class__" t] [] _ (by decide +kernel) (by decide +kernel) isb (PySem.F.args_bexc_ga (.ref x) (.str "__class__" t)) ?_))
  unfold Builtin.«object.__getattribute__»
  refine wpAny_bind (wpAny_of_eq (a := ((Value.ref x : Value), [Value.str "__class__" t])) (by first | rfl | (simp only [slotArgs]; rfl)) (wpAny_bind (wpAny_pure (wpAny_bind (l0.at (wpAny_bind (l3.at (show wpAny _ _ (holding [Value.builtin "object.__class__"] (call (.builtin "getset_descriptor.__get__") [.builtin "object.__class__", .ref x, .ref D]) >>= ret) _ _ _ from ?_))))))))
  refine wpAny_bind (wpAny_holding (wpAny_call (class_get (s := ⟨hp, g, d, t + 1, os⟩) (ox := ox) (od := od) X I T.hm (wpAny_pure (show wpAny _ _ (handedOut (.ref D)) _ _ _ from ?_)))))
  rw [handedOut_of (v := .ref D) rfl]
  first
    | exact wpAny_pure (wpAny_pure h)
    | exact wpAny_pure h
    | exact wpAny_pure (wpAny_bind (wpAny_pure (wpAny_pure h)))
theorem kitx_excV (T : L2.ExcC K D) : KitX K (.ref x) (.ref D) (fun h => InstAt h x ox D od) where
  ty := fun _ _ _ I => I.type
  it := fun _ _ X _ => by
    obtain ⟨cd, e, _⟩ := any_some T.hd
    unfold clsIn at e
    split at e
    · rename_i c' d' cd' sl' ho
      intro A' Q' E' s' k q
      unfold isType loadHead
      exact wpAny_bind (wpAny_loadPart (k _ _ (X _ _ ho)) (wpAny_pure q))
    · cases e
  ne := fun h tp dd its n sl X htp => by
    obtain ⟨cd, e, _⟩ := any_some T.hd
    refine Bool.eq_false_iff.mpr fun q => ?_
    have z0 : D = tp := Value.ref.inj (beq_iff_eq.mp q)
    subst z0
    unfold clsIn at e
    split at e
    · rename_i c' d' cd' sl' ho
      have z := (X _ _ ho).symm.trans htp
      cases z
    · cases e
  ca := fun X I k => kin_classV T X I k
end
end PySem.W
namespace Mi
open PySem L2
/-- isinstance(e, c), e an exception that is a value -/
theorem call_isV {X : Cx} {D : Addr} (T : ExcC X.K D) : CallR X (.builtin "isinstance") (fun xs H Q => ∃ (a dx : Addr) (fs : List (Str × V)) (c : V) (cv : Value) (b : Bool), xs = [.ref a, c] ∧ H a = some (exv a D dx) ∧ H dx = some (.xd fs) ∧ (∀ u, RelV c u → u = cv) ∧ PySem.W.kitOne X.K (.ref D) cv = some b ∧ Q (.bl b) H) := by
  intro pins s σ H xs us Q I r h
  obtain ⟨a, dx, fs, c, cv, b, rfl, hv, hd, hcv, e, q⟩ := h
  cases r with
  | cons rx rr =>
    cases rr with
    | cons rt rr =>
      cases rr
      cases rx
      cases hcv _ rt
      obtain ⟨⟨oe, vs, ha, hz, hdt⟩, _, _⟩ := I.hok a _ hv
      have hx : ObjOk X.prog X.w H s.heap dx (.xd fs) := I.hok dx _ hd
      obtain ⟨mA, hns, _⟩ := hx
      obtain ⟨od, ho, _⟩ := lookIn_ns hns
      have J : PySem.W.InstAt s.heap a oe D (some od) := ⟨ha, hz.1, by unfold PySem.W.notCls; rw [hdt] <;> rfl, by rw [hz.2]; exact ho⟩
      exact PySem.W.kia_one (PySem.W.kitx_excV T) I.kIn J e (fun z => nomatch z) fun tk => ⟨.bl b, H, I.kept (t' := tk) fun _ _ z => z, rfl, q⟩
end Mi
/-! Mini, part D: how Mini's values and memory stand in the abstract heap; steps of the heap; results. -/
set_option autoImplicit false
set_option linter.all false
namespace Mi
open PySem L2

/-- where the classes stand -/
structure Wd where
  K : W.Frag
  cls : Str → Option Addr
  fnA : Str → Option (Addr × FuncData)
  mg : Str → Option Value
  /-- where things stand that no value names: lists that a comprehension is making -/
  hid : List Addr
/-- a stands for no mutable object, no hidden one -/
def Wd.out (G : Wd) (β : List Addr) (a : Addr) : Prop := a ∉ β ∧ a ∉ G.hid
theorem Wd.out.cut {G : Wd} {β β' : List Addr} {a : Addr} (p : β <+: β') (h : G.out β' a) : G.out β a := ⟨fun m => h.1 (p.subset m), h.2⟩

def kM : L2.Key → MV
  | .inl i => .int i
  | .inr s => .str s
/-- a list of the written part -/
def KLst (K : W.Frag) (a : Addr) (xs : List V) : Prop := ∃ o its n, K.lookup a = some o ∧ o.cls = Value.type "list" ∧ o.dict = none ∧ o.data = Data.seq its n ∧ its.size ≤ sizeLine ∧ Vals xs its.toList
def KTup (K : W.Frag) (a : Addr) (xs : List V) : Prop := ∃ o its n, K.lookup a = some o ∧ o.cls = Value.type "tuple" ∧ o.data = Data.seq its n ∧ its.size ≤ sizeLine ∧ Vals xs its.toList
def SLst (G : Wd) (β : List Addr) (H : Hp) (a : Addr) (xs : List V) : Prop := (G.out β a ∧ Rd H a (.lst xs)) ∨ KLst G.K a xs
def FTup (G : Wd) (β : List Addr) (H : Hp) (a : Addr) (xs : List V) : Prop := (G.out β a ∧ H a = some (.tup xs)) ∨ KTup G.K a xs
theorem SLst.sq {G : Wd} {β : List Addr} {H : Hp} {a : Addr} {xs : List V} (h : SLst G β H a xs) : SqL G.K H a xs := h.elim (fun h => .inl h.2) .inr
theorem FTup.sq {G : Wd} {β : List Addr} {H : Hp} {a : Addr} {xs : List V} (h : FTup G β H a xs) : SqT G.K H a xs := h.elim (fun h => .inl (.inl h.2)) .inr
mutual
/-- the Mini value is, in H, the value x; β: where the mutable objects stand -/
def RV (G : Wd) (β : List Addr) (H : Hp) : MV → V → Prop
  | .non, x => x = .non
  | .bl b, x => x = .bl b
  | .int i, x => x = .int i
  | .str s, x => x = .str s
  | .tup xs, x => ∃ a ys, x = .ref a ∧ FTup G β H a ys ∧ RVs G β H xs ys
  | .fls xs, x => ∃ a ys, x = .ref a ∧ (G.out β a ∧ H a = some (.lst ys)) ∧ RVs G β H xs ys
  | .scr xs, x => ∃ a ys, x = .ref a ∧ SLst G β H a ys ∧ RVs G β H xs ys
  | .fdc ks vs, x => ∃ (a : Addr) (kvs : List (L2.Key × V)), x = .ref a ∧ G.out β a ∧ Rd H a (.dK kvs) ∧ ks = kvs.map (fun p => kM p.1) ∧ RVs G β H vs (kvs.map (·.2))
  | .obj c ns vs, x => ∃ (a C dx : Addr) (ys : List V), x = .ref a ∧ G.out β a ∧ G.cls c = some C ∧ H a = some (.ins C dx (ns.zip ys)) ∧ ns.length = vs.length ∧ RVs G β H vs ys
  | .exn c ns vs, x => ∃ (a C dx : Addr) (ys : List V) (fs : List (Str × V)), x = .ref a ∧ G.out β a ∧ G.out β dx ∧ G.cls c = some C ∧ H a = some (exv a C dx) ∧ H dx = some (.xd fs) ∧ (∀ f, fs.lookup f = (ns.zip ys).lookup f) ∧ ns.length = vs.length ∧ RVs G β H vs ys
  | .ref i, x => ∃ a, β[i]? = some a ∧ x = .ref a
def RVs (G : Wd) (β : List Addr) (H : Hp) : List MV → List V → Prop
  | [], ys => ys = []
  | x :: r, ys => ∃ y s, ys = y :: s ∧ RV G β H x y ∧ RVs G β H r s
end
/-- a dict may be locked meanwhile -/
def LeO (o o' : HO) : Prop := o' = o ∨ ∃ (kvs : List (L2.Key × V)) (od : Obj), o = .dK kvs ∧ o' = .frz od o
theorem LeO.trans {a b c : HO} (h : LeO a b) (k : LeO b c) : LeO a c := by
  rcases h with rfl | ⟨kvs, od, rfl, rfl⟩
  · exact k
  · rcases k with rfl | ⟨_, _, e, _⟩
    · exact .inr ⟨kvs, od, rfl, rfl⟩
    · cases e
/-- the heap went on: what isn't a mutable object of before stands as it stood (a dict may be locked) -/
structure Step (G : Wd) (β : List Addr) (H : Hp) (β' : List Addr) (H' : Hp) : Prop where
  pre : β <+: β'
  new : ∀ b ∈ β', b ∉ β → H b = none
  keepL : ∀ p o, H p = some o → G.out β p → ∃ o', H' p = some o' ∧ LeO o o'
  keepH : ∀ p o, p ∈ G.hid → H p = some o → H' p = some o
  keepF : ∀ p od u, H p = some (.frz od u) → H' p = some (.frz od u)
theorem Step.rfl' {G : Wd} {β : List Addr} {H : Hp} : Step G β H β H := ⟨List.prefix_refl _, fun _ h n => (n h).elim, fun _ o h _ => ⟨o, h, .inl rfl⟩, fun _ _ _ h => h, fun _ _ _ h => h⟩
theorem Step.out {G : Wd} {β β' : List Addr} {H H' : Hp} (s : Step G β H β' H') {a : Addr} {o : HO} (n : G.out β a) (h : H a = some o) : G.out β' a := by
  refine ⟨fun m => ?_, n.2⟩
  have := s.new a m n.1
  rw [h] at this; cases this
theorem Step.trans {G : Wd} {β β1 β2 : List Addr} {H H1 H2 : Hp} (a : Step G β H β1 H1) (b : Step G β1 H1 β2 H2) : Step G β H β2 H2 := by
  refine ⟨a.pre.trans b.pre, fun p hp n => ?_, fun p o h n => ?_, fun p o hp h => b.keepH p o hp (a.keepH p o hp h), fun p od u h => b.keepF p od u (a.keepF p od u h)⟩
  · by_cases h1 : p ∈ β1
    · exact a.new p h1 n
    · cases e : H p with
      | none => rfl
      | some o =>
        have h2 := b.new p hp h1
        by_cases hh : p ∈ G.hid
        · rw [a.keepH p o hh e] at h2; cases h2
        · obtain ⟨o', h', _⟩ := a.keepL p o e ⟨n, hh⟩; rw [h2] at h'; cases h'
  · obtain ⟨o1, h1, l1⟩ := a.keepL p o h n
    obtain ⟨o2, h2, l2⟩ := b.keepL p o1 h1 (a.out n h)
    exact ⟨o2, h2, l1.trans l2⟩
theorem Step.nin {G : Wd} {β β' : List Addr} {H H' : Hp} (s : Step G β H β' H') {a : Addr} {o : HO} (n : G.out β a) (h : H a = some o) : G.out β' a := s.out n h
theorem Step.keep {G : Wd} {β β' : List Addr} {H H' : Hp} (s : Step G β H β' H') {a : Addr} {o : HO} (h : H a = some o) (n : G.out β a) (d : ∀ kvs : List (L2.Key × V), o ≠ .dK kvs) : H' a = some o := by
  obtain ⟨o', h', l⟩ := s.keepL a o h n
  rcases l with rfl | ⟨kvs, od, rfl, rfl⟩
  · exact h'
  · exact (d kvs rfl).elim
theorem Step.rd {G : Wd} {β β' : List Addr} {H H' : Hp} (s : Step G β H β' H') {a : Addr} {o : HO} (n : G.out β a) (h : Rd H a o) : Rd H' a o := by
  rcases h with h | ⟨u, h⟩
  · obtain ⟨o', h', l⟩ := s.keepL a o h n
    rcases l with rfl | ⟨kvs, od, rfl, rfl⟩
    · exact .inl h'
    · exact .inr ⟨od, h'⟩
  · exact .inr ⟨u, s.keep h n (by intro _ z; cases z)⟩
theorem Step.ninR {G : Wd} {β β' : List Addr} {H H' : Hp} (s : Step G β H β' H') {a : Addr} {o : HO} (n : G.out β a) (h : Rd H a o) : G.out β' a := by
  rcases h with h | ⟨u, h⟩
  · exact s.nin n h
  · exact s.nin n h
theorem Step.at {G : Wd} {β β' : List Addr} {H H' : Hp} (s : Step G β H β' H') {i : Nat} {a : Addr} (h : β[i]? = some a) : β'[i]? = some a := by
  obtain ⟨t, rfl⟩ := s.pre
  rw [List.getElem?_append_left (List.getElem?_eq_some_iff.mp h).1]; exact h
mutual
theorem RV.step {G : Wd} {β β' : List Addr} {H H' : Hp} (s : Step G β H β' H') : ∀ (v : MV) (x : V), RV G β H v x → RV G β' H' v x
  | .non, _, h => h
  | .bl _, _, h => h
  | .int _, _, h => h
  | .str _, _, h => h
  | .tup xs, x, ⟨a, ys, e, f, r⟩ => ⟨a, ys, e, f.elim (fun f => .inl ⟨s.nin f.1 f.2, s.keep f.2 f.1 (by intro _ z; cases z)⟩) .inr, RVs.step s xs ys r⟩
  | .fls xs, x, ⟨a, ys, e, f, r⟩ => ⟨a, ys, e, ⟨s.nin f.1 f.2, s.keep f.2 f.1 (by intro _ z; cases z)⟩, RVs.step s xs ys r⟩
  | .scr xs, x, ⟨a, ys, e, f, r⟩ => ⟨a, ys, e, f.elim (fun f => .inl ⟨s.ninR f.1 f.2, s.rd f.1 f.2⟩) .inr, RVs.step s xs ys r⟩
  | .fdc ks vs, x, ⟨a, kvs, e, n, rd, k, r⟩ => ⟨a, kvs, e, s.ninR n rd, s.rd n rd, k, RVs.step s vs _ r⟩
  | .obj c ns vs, x, ⟨a, C, dx, ys, e, n, hc, h, l, r⟩ => ⟨a, C, dx, ys, e, s.nin n h, hc, s.keep h n (by intro _ z; cases z), l, RVs.step s vs _ r⟩
  | .exn c ns vs, x, ⟨a, C, dx, ys, fs, e, n, n2, hc, h, hd, lk, l, r⟩ => ⟨a, C, dx, ys, fs, e, s.nin n h, s.nin n2 hd, hc, s.keep h n exv_dK, s.keep hd n2 (by intro _ z; cases z), lk, l, RVs.step s vs _ r⟩
  | .ref i, x, ⟨a, h, e⟩ => ⟨a, s.at h, e⟩
theorem RVs.step {G : Wd} {β β' : List Addr} {H H' : Hp} (s : Step G β H β' H') : ∀ (vs : List MV) (xs : List V), RVs G β H vs xs → RVs G β' H' vs xs
  | [], _, h => h
  | v :: r, xs, ⟨y, t, e, h, hr⟩ => ⟨y, t, e, RV.step s v y h, RVs.step s r t hr⟩
end
theorem RVs.len {G : Wd} {β : List Addr} {H : Hp} : ∀ {vs : List MV} {xs : List V}, RVs G β H vs xs → xs.length = vs.length
  | [], _, h => by rw [show _ = [] from h]; rfl
  | v :: r, xs, ⟨y, t, e, h, hr⟩ => by rw [e]; simp [hr.len]
theorem RVs.app {G : Wd} {β : List Addr} {H : Hp} : ∀ {vs ws : List MV} {xs ys : List V}, RVs G β H vs xs → RVs G β H ws ys → RVs G β H (vs ++ ws) (xs ++ ys)
  | [], _, _, _, h, h' => by rw [show _ = [] from h]; exact h'
  | v :: r, ws, xs, ys, ⟨y, t, e, h, hr⟩, h' => by rw [e]; exact ⟨y, t ++ ys, rfl, h, hr.app h'⟩
theorem RVs.at {G : Wd} {β : List Addr} {H : Hp} : ∀ {vs : List MV} {xs : List V} {i : Nat} {v : MV}, RVs G β H vs xs → vs[i]? = some v → ∃ x, xs[i]? = some x ∧ RV G β H v x
  | [], _, _, _, _, h => by simp at h
  | w :: r, xs, 0, v, ⟨y, t, e, h, hr⟩, hv => by
    have : w = v := by simpa using hv
    subst this; exact ⟨y, by rw [e]; rfl, h⟩
  | w :: r, xs, i + 1, v, ⟨y, t, e, h, hr⟩, hv => by
    obtain ⟨x, hx, r'⟩ := hr.at (i := i) (v := v) (by simpa using hv)
    exact ⟨x, by rw [e]; simpa using hx, r'⟩
theorem RVs.at' {G : Wd} {β : List Addr} {H : Hp} : ∀ {vs : List MV} {xs : List V} {i : Nat} {x : V}, RVs G β H vs xs → xs[i]? = some x → ∃ v, vs[i]? = some v ∧ RV G β H v x
  | [], _, _, _, h, h' => by rw [show _ = [] from h] at h'; simp at h'
  | w :: r, xs, 0, x, ⟨y, t, e, h, hr⟩, hv => by
    rw [e] at hv
    have : y = x := by simpa using hv
    subst this; exact ⟨w, rfl, h⟩
  | w :: r, xs, i + 1, x, ⟨y, t, e, h, hr⟩, hv => by
    rw [e] at hv
    obtain ⟨v, hv', r'⟩ := hr.at' (i := i) (x := x) (by simpa using hv)
    exact ⟨v, by simpa using hv', r'⟩
theorem RVs.set {G : Wd} {β : List Addr} {H : Hp} : ∀ {vs : List MV} {xs : List V} {v : MV} {x : V} (i : Nat), RVs G β H vs xs → RV G β H v x → RVs G β H (vs.set i v) (xs.set i x)
  | [], _, _, _, _, h, _ => by rw [show _ = [] from h]; simp; exact rfl
  | w :: r, xs, v, x, 0, ⟨y, t, e, h, hr⟩, hv => by rw [e]; exact ⟨x, t, rfl, hv, hr⟩
  | w :: r, xs, v, x, i + 1, ⟨y, t, e, h, hr⟩, hv => by rw [e]; exact ⟨y, t.set i x, rfl, h, hr.set i hv⟩
theorem RVs.drop {G : Wd} {β : List Addr} {H : Hp} : ∀ {vs : List MV} {xs : List V} (i : Nat), RVs G β H vs xs → RVs G β H (vs.drop i) (xs.drop i)
  | [], _, _, h => by rw [show _ = [] from h]; simp; exact rfl
  | w :: r, xs, 0, h => h
  | w :: r, xs, i + 1, ⟨y, t, e, h, hr⟩ => by rw [e]; exact hr.drop i
theorem RVs.take {G : Wd} {β : List Addr} {H : Hp} : ∀ {vs : List MV} {xs : List V} (i : Nat), RVs G β H vs xs → RVs G β H (vs.take i) (xs.take i)
  | [], _, _, h => by rw [show _ = [] from h]; simp; exact rfl
  | w :: r, xs, 0, h => rfl
  | w :: r, xs, i + 1, ⟨y, t, e, h, hr⟩ => by rw [e]; exact ⟨y, t.take i, rfl, h, hr.take i⟩
theorem RVs.erase {G : Wd} {β : List Addr} {H : Hp} {vs : List MV} {xs : List V} (i : Nat) (h : RVs G β H vs xs) : RVs G β H (vs.eraseIdx i) (xs.eraseIdx i) := by
  rw [List.eraseIdx_eq_take_drop_succ, List.eraseIdx_eq_take_drop_succ]; exact (h.take i).app (h.drop (i + 1))
theorem RVs.rev {G : Wd} {β : List Addr} {H : Hp} : ∀ {vs : List MV} {xs : List V}, RVs G β H vs xs → RVs G β H vs.reverse xs.reverse
  | [], _, h => by rw [show _ = [] from h]; exact rfl
  | w :: r, xs, ⟨y, t, e, h, hr⟩ => by rw [e, List.reverse_cons, List.reverse_cons]; exact hr.rev.app ⟨y, [], rfl, h, rfl⟩

/-- a mutable object at a -/
def RO (G : Wd) (β : List Addr) (H : Hp) : MO → Addr → Prop
  | .lst xs, a => ∃ ys, H a = some (.lst ys) ∧ RVs G β H xs ys
  | .dct _ ks vs, a => ∃ kvs : List (L2.Key × V), H a = some (.dK kvs) ∧ ks = kvs.map (fun p => kM p.1) ∧ RVs G β H vs (kvs.map (·.2))
  | .ins c ns vs, a => ∃ (C dx : Addr) (ys : List V), G.cls c = some C ∧ H a = some (.ins C dx (ns.zip ys)) ∧ ns.length = vs.length ∧ RVs G β H vs ys
  | .dead, a => H a ≠ none
  | .lck ks vs, a => ∃ (od : Obj) (kvs : List (L2.Key × V)), H a = some (.frz od (.dK kvs)) ∧ ks = kvs.map (fun p => kM p.1) ∧ RVs G β H vs (kvs.map (·.2))
structure RelM (G : Wd) (β : List Addr) (M : Mem) (H : Hp) : Prop where
  nd : β.Nodup
  len : β.length = M.length
  obj : ∀ (i : Nat) (a : Addr) (o : MO), β[i]? = some a → M[i]? = some o → RO G β H o a
  dis : ∀ b ∈ β, b ∉ G.hid
  hid : ∀ b ∈ G.hid, H b ≠ none
theorem RO.some {G : Wd} {β : List Addr} {H : Hp} {o : MO} {a : Addr} (h : RO G β H o a) : H a ≠ none := by
  cases o with
  | lst xs => obtain ⟨ys, h, _⟩ := h; rw [h]; simp
  | dct e ks vs => obtain ⟨ys, h, _⟩ := h; rw [h]; simp
  | ins c ns vs => obtain ⟨C, dx, ys, _, h, _⟩ := h; rw [h]; simp
  | dead => exact h
  | lck ks vs => obtain ⟨od, ys, h, _⟩ := h; rw [h]; simp
theorem RelM.mem {G : Wd} {β : List Addr} {M : Mem} {H : Hp} (h : RelM G β M H) {a : Addr} (m : a ∈ β) : H a ≠ none := by
  obtain ⟨i, hi⟩ := List.mem_iff_getElem?.mp m
  have hl := (List.getElem?_eq_some_iff.mp hi).1
  rw [h.len] at hl
  exact (h.obj i a M[i] hi (List.getElem?_eq_getElem hl)).some
theorem upd_keep {H : Hp} {p q : Addr} {o u : HO} (hp : H p = none) (h : H q = some u) : upd H p o q = some u := by
  rw [upd_ne]; exact h
  intro e; subst e; rw [hp] at h; cases h
theorem upd_some {H : Hp} {p q : Addr} {o : HO} (h : H q ≠ none) : upd H p o q ≠ none := by
  by_cases e : q = p
  · subst e; rw [upd_same]; simp
  · rw [upd_ne e]; exact h
theorem RelM.fresh {G : Wd} {β : List Addr} {M : Mem} {H : Hp} (h : RelM G β M H) {a : Addr} (m : H a = none) : G.out β a := ⟨fun n => h.mem n m, fun n => h.hid a n m⟩
theorem RelM.get {G : Wd} {β : List Addr} {M : Mem} {H : Hp} (h : RelM G β M H) {i : Nat} {a : Addr} (e : β[i]? = some a) : ∃ o, M[i]? = some o ∧ RO G β H o a := by
  have hl := (List.getElem?_eq_some_iff.mp e).1
  rw [h.len] at hl
  exact ⟨M[i], List.getElem?_eq_getElem hl, h.obj i a _ e (List.getElem?_eq_getElem hl)⟩
theorem RelM.to {G : Wd} {β : List Addr} {M : Mem} {H : Hp} (h : RelM G β M H) {i : Nat} {o : MO} (e : M[i]? = some o) : ∃ a, β[i]? = some a ∧ RO G β H o a := by
  have hl := (List.getElem?_eq_some_iff.mp e).1
  rw [← h.len] at hl
  exact ⟨β[i], List.getElem?_eq_getElem hl, h.obj i _ o (List.getElem?_eq_getElem hl) e⟩
/-- a new thing at a free place -/
theorem Step.fresh {G : Wd} {β : List Addr} {H : Hp} {p : Addr} (o : HO) (hp : H p = none) : Step G β H β (upd H p o) :=
  ⟨List.prefix_refl _, fun _ h n => (n h).elim, fun q u h _ => ⟨u, upd_keep hp h, .inl rfl⟩, fun q u _ h => upd_keep hp h, fun q od u h => upd_keep hp h⟩
theorem RO.step {G : Wd} {β β' : List Addr} {H H' : Hp} (s : Step G β H β' H') {o : MO} {a : Addr} (h : RO G β H o a) (e : H' a = H a) : RO G β' H' o a := by
  cases o with
  | lst xs => obtain ⟨ys, h, r⟩ := h; exact ⟨ys, e.trans h, RVs.step s _ _ r⟩
  | dct ep ks vs => obtain ⟨ys, h, k, r⟩ := h; exact ⟨ys, e.trans h, k, RVs.step s _ _ r⟩
  | ins c ns vs => obtain ⟨C, dx, ys, c, h, l, r⟩ := h; exact ⟨C, dx, ys, c, e.trans h, l, RVs.step s _ _ r⟩
  | dead => exact fun z => h (e ▸ z)
  | lck ks vs => obtain ⟨od, ys, h, k, r⟩ := h; exact ⟨od, ys, e.trans h, k, RVs.step s _ _ r⟩
theorem RelM.new {G : Wd} {β : List Addr} {M : Mem} {H : Hp} {p : Addr} (h : RelM G β M H) (o : HO) (hp : H p = none) : RelM G β M (upd H p o) := by
  refine ⟨h.nd, h.len, fun i a u hi hu => (h.obj i a u hi hu).step (Step.fresh o hp) ?_, h.dis, fun b hb => upd_some (h.hid b hb)⟩
  rw [upd_ne]
  intro e; subst e; exact (h.fresh hp).1 (List.mem_iff_getElem?.mpr ⟨i, hi⟩)
/-- a mutable object is changed -/
theorem Step.wr {G : Wd} {β : List Addr} {M : Mem} {H : Hp} {i : Nat} {a : Addr} (h : RelM G β M H) (e : β[i]? = some a) (o : HO) (nf : ∀ od u, H a ≠ some (.frz od u)) : Step G β H β (upd H a o) := by
  have ha : a ∈ β := List.mem_iff_getElem?.mpr ⟨i, e⟩
  refine ⟨List.prefix_refl _, fun _ h n => (n h).elim, fun q u hq n => ⟨u, ?_, .inl rfl⟩, fun q u hq hu => ?_, fun q od u hq => ?_⟩
  · rw [upd_ne]; exact hq
    intro z; subst z; exact n.1 ha
  · rw [upd_ne]; exact hu
    intro z; subst z; exact h.dis _ ha hq
  · rw [upd_ne]; exact hq
    intro z; subst z; exact nf _ _ hq
theorem RelM.wr {G : Wd} {β : List Addr} {M : Mem} {H : Hp} {i : Nat} {a : Addr} (h : RelM G β M H) (e : β[i]? = some a) (o : HO) (nf : ∀ od u, H a ≠ some (.frz od u)) (m : MO) (r : RO G β (upd H a o) m a) : RelM G β (M.set i m) (upd H a o) := by
  refine ⟨h.nd, by rw [h.len, List.length_set], fun j b u hj hu => ?_, h.dis, fun b hb => upd_some (h.hid b hb)⟩
  by_cases c : i = j
  · subst c
    rw [e] at hj; cases hj
    have hl := (List.getElem?_eq_some_iff.mp e).1
    rw [h.len] at hl
    rw [List.getElem?_set_self hl] at hu
    cases hu; exact r
  · rw [List.getElem?_set_ne c] at hu
    refine (h.obj j b u hj hu).step (Step.wr h e o nf) ?_
    rw [upd_ne]
    intro z; subst z
    have h1 := (List.getElem?_eq_some_iff.mp e)
    have h2 := (List.getElem?_eq_some_iff.mp hj)
    have hp := List.pairwise_iff_getElem.mp h.nd
    rcases Nat.lt_or_gt_of_ne c with l | l
    · exact hp i j h1.1 h2.1 l (h1.2.trans h2.2.symm)
    · exact hp j i h2.1 h1.1 l (h2.2.trans h1.2.symm)
/-- a new thing becomes a mutable object -/
theorem Step.box {G : Wd} {β : List Addr} {H : Hp} {p : Addr} (o : HO) (hp : H p = none) : Step G β H (β ++ [p]) (upd H p o) := by
  refine ⟨List.prefix_append _ _, fun b h n => ?_, fun q u h _ => ⟨u, upd_keep hp h, .inl rfl⟩, fun q u _ h => upd_keep hp h, fun q od u h => upd_keep hp h⟩
  rcases List.mem_append.mp h with m | m
  · exact (n m).elim
  · cases List.mem_singleton.mp m; exact hp
theorem RelM.box {G : Wd} {β : List Addr} {M : Mem} {H : Hp} {p : Addr} (h : RelM G β M H) (o : HO) (m : MO) (hp : H p = none) (r : RO G (β ++ [p]) (upd H p o) m p) : RelM G (β ++ [p]) (M ++ [m]) (upd H p o) := by
  refine ⟨?_, by simp [h.len], fun j b u hj hu => ?_, fun b hb => ?_, fun b hb => upd_some (h.hid b hb)⟩
  · rw [List.nodup_append]
    refine ⟨h.nd, by simp, ?_⟩
    intro a ha b hb e
    subst e
    cases List.mem_singleton.mp hb
    exact (h.fresh hp).1 ha
  · by_cases c : j < β.length
    · rw [List.getElem?_append_left c] at hj
      rw [List.getElem?_append_left (h.len ▸ c)] at hu
      refine (h.obj j b u hj hu).step (Step.box o hp) ?_
      rw [upd_ne]
      intro z; subst z; exact (h.fresh hp).1 (List.mem_iff_getElem?.mpr ⟨j, hj⟩)
    · have hl := (List.getElem?_eq_some_iff.mp hj).1
      have : j = β.length := by simp at hl; omega
      subst this
      have e1 : p = b := by simpa using hj
      have e2 : m = u := by rw [h.len] at hu; simpa using hu
      subst e1; subst e2; exact r
  · rcases List.mem_append.mp hb with m | m
    · exact h.dis b m
    · cases List.mem_singleton.mp m; exact (h.fresh hp).2

/-- a frozen dict is locked -/
theorem Step.lock {G : Wd} {β : List Addr} {H : Hp} {p : Addr} {kvs : List (L2.Key × V)} (od : Obj) (hp : H p = some (.dK kvs)) (n : G.out β p) : Step G β H β (upd H p (.frz od (.dK kvs))) := by
  refine ⟨List.prefix_refl _, fun _ h n => (n h).elim, fun q u h _ => ?_, fun q u hq h => ?_, fun q od' u h => ?_⟩
  · by_cases e : q = p
    · subst e; rw [hp] at h; cases h
      exact ⟨_, upd_same, .inr ⟨kvs, od, rfl, rfl⟩⟩
    · exact ⟨u, by rw [upd_ne e]; exact h, .inl rfl⟩
  · rw [upd_ne]; exact h
    intro z; subst z; exact n.2 hq
  · rw [upd_ne]; exact h
    intro z; subst z; rw [hp] at h; cases h
theorem RelM.lock {G : Wd} {β : List Addr} {M : Mem} {H : Hp} {p : Addr} {kvs : List (L2.Key × V)} (h : RelM G β M H) (od : Obj) (hp : H p = some (.dK kvs)) (n : G.out β p) : RelM G β M (upd H p (.frz od (.dK kvs))) := by
  refine ⟨h.nd, h.len, fun i a u hi hu => (h.obj i a u hi hu).step (Step.lock od hp n) ?_, h.dis, fun b hb => upd_some (h.hid b hb)⟩
  rw [upd_ne]
  intro e; subst e; exact n.1 (List.mem_iff_getElem?.mpr ⟨i, hi⟩)

/-! ### slots -/
def RelS (G : Wd) (β : List Addr) (H : Hp) (ρ : Env) (σ : St) : Prop := ρ.length = σ.length ∧ ∀ (i : Nat) (v : MV), ρ[i]? = some (some v) → ∃ x, σ[i]? = some (some x) ∧ RV G β H v x
theorem RelS.step {G : Wd} {β β' : List Addr} {H H' : Hp} (s : Step G β H β' H') {ρ : Env} {σ : St} (h : RelS G β H ρ σ) : RelS G β' H' ρ σ := ⟨h.1, fun i v hi => by
  obtain ⟨x, hx, r⟩ := h.2 i v hi
  exact ⟨x, hx, RV.step s v x r⟩⟩
theorem RelS.set {G : Wd} {β : List Addr} {H : Hp} {ρ : Env} {σ : St} (h : RelS G β H ρ σ) (i : Nat) {v : MV} {x : V} (r : RV G β H v x) : RelS G β H (ρ.set i (some v)) (σ.set i (some x)) := by
  refine ⟨by simp [h.1], fun j w hj => ?_⟩
  by_cases c : i = j
  · subst c
    have hl : i < ρ.length := by have := (List.getElem?_eq_some_iff.mp hj).1; simpa using this
    rw [List.getElem?_set_self hl] at hj
    cases hj
    exact ⟨x, by rw [List.getElem?_set_self (h.1 ▸ hl)], r⟩
  · rw [List.getElem?_set_ne c] at hj
    obtain ⟨y, hy, r'⟩ := h.2 j w hj
    exact ⟨y, by rw [List.getElem?_set_ne c]; exact hy, r'⟩
theorem RelS.unset {G : Wd} {β : List Addr} {H : Hp} {ρ : Env} {σ : St} (h : RelS G β H ρ σ) (i : Nat) : RelS G β H (ρ.set i none) (σ.set i none) := by
  refine ⟨by simp [h.1], fun j w hj => ?_⟩
  by_cases c : i = j
  · subst c
    have hl : i < ρ.length := by have := (List.getElem?_eq_some_iff.mp hj).1; simpa using this
    rw [List.getElem?_set_self hl] at hj
    cases hj
  · rw [List.getElem?_set_ne c] at hj
    obtain ⟨y, hy, r'⟩ := h.2 j w hj
    exact ⟨y, by rw [List.getElem?_set_ne c]; exact hy, r'⟩

/-! ### results -/
structure Cf where
  G : Wd
  P : MProg
  W : Nat
  n : Nat
abbrev Cf.cal (c : Cf) : Cal := callF c.P c.W c.n
/-- an exception's dict -/
def XD (G : Wd) (β : List Addr) (H : Hp) (dx : Addr) (ns : List Str) (xs : List V) : Prop := (∃ fs : List (Str × V), H dx = some (.xd fs) ∧ ∀ f, fs.lookup f = (ns.zip xs).lookup f) ∧ G.out β dx ∧ ns.length = xs.length
/-- what is to be shown of a result: k of what is given, w of what is raised -/
def OkR (c : Cf) (w : Value → Option Addr → Hp → Prop) (β : List Addr) (H : Hp) {α : Type} (r : Res α) (k : List Addr → Mem → α → Hp → Prop) : Prop := match r with
  | .ok v M' => ∀ β' H', Step c.G β H β' H' → RelM c.G β' M' H' → k β' M' v H'
  | .ex cn ns vs M' => ∀ β' H' C dx xs, Step c.G β H β' H' → RelM c.G β' M' H' → c.G.cls cn = some C → XD c.G β' H' dx ns xs → RVs c.G β' H' vs xs → w (.ref C) (some dx) H'
  | .err => False
theorem OkR.imp {c : Cf} {w : Value → Option Addr → Hp → Prop} {β : List Addr} {H : Hp} {α : Type} {r : Res α} {k k' : List Addr → Mem → α → Hp → Prop} (h : OkR c w β H r k) (i : ∀ β' M' v H', Step c.G β H β' H' → RelM c.G β' M' H' → k β' M' v H' → k' β' M' v H') : OkR c w β H r k' := by
  cases r with
  | ok v M => exact fun β' H' s m => i _ _ _ _ s m (h β' H' s m)
  | ex cn ns vs M => exact h
  | err => exact h
theorem OkR.from {c : Cf} {w : Value → Option Addr → Hp → Prop} {β β1 : List Addr} {H H1 : Hp} {α : Type} {r : Res α} {k : List Addr → Mem → α → Hp → Prop} (h : OkR c w β H r k) (s : Step c.G β H β1 H1) : OkR c w β1 H1 r k := by
  cases r with
  | ok v M => exact fun β' H' s' m => h β' H' (s.trans s') m
  | ex cn ns vs M => exact fun β' H' C dx xs s' => h β' H' C dx xs (s.trans s')
  | err => exact h
theorem OkR.bind {c : Cf} {w : Value → Option Addr → Hp → Prop} {β : List Addr} {H : Hp} {α γ : Type} {r : Res α} {f : α → Mem → Res γ} {k : List Addr → Mem → γ → Hp → Prop} (h : OkR c w β H (r.bind f) k) : OkR c w β H r (fun β' M' v H' => OkR c w β' H' (f v M') k) := by
  cases r with
  | ok v M => exact fun β' H' s _ => OkR.from h s
  | ex cn ns vs M => exact h
  | err => exact h
theorem OkR.of {c : Cf} {w : Value → Option Addr → Hp → Prop} {β : List Addr} {H : Hp} {α : Type} {o : Option α} {M : Mem} {k : List Addr → Mem → α → Hp → Prop} (h : OkR c w β H (Res.of o M) k) : ∃ v, o = some v ∧ ∀ β' H', Step c.G β H β' H' → RelM c.G β' M H' → k β' M v H' := by
  cases o with
  | none => exact h.elim
  | some v => exact ⟨v, rfl, h⟩
end Mi
/-! Mini, part E: readings by Mini, expressions. -/
set_option autoImplicit false
set_option linter.all false
namespace Mi
open PySem L2

theorem PE.dyn {X : Cx} {e : Expr} {t : TE} (h : ∀ σ H Q, t σ H Q → ∃ t', PE X e t' ∧ t' σ H Q) : PE X e t :=
  ⟨fun pins s σ H Q I ht => by obtain ⟨t', p, h'⟩ := h σ H Q ht; exact p.run pins s σ H Q I h'⟩
theorem PE.imp {X : Cx} {e : Expr} {t t' : TE} (p : PE X e t') (h : ∀ σ H Q, t σ H Q → t' σ H Q) : PE X e t := PE.dyn fun σ H Q ht => ⟨t', p, h σ H Q ht⟩
theorem PT.dyn {X : Cx} {e : Expr} {t : TT} (h : ∀ σ H Q, t σ H Q → ∃ t', PT X e t' ∧ t' σ H Q) : PT X e t :=
  ⟨fun pins s σ H Q I ht => by obtain ⟨t', p, h'⟩ := h σ H Q ht; exact p.run pins s σ H Q I h'⟩
theorem PT.imp {X : Cx} {e : Expr} {t t' : TT} (p : PT X e t') (h : ∀ σ H Q, t σ H Q → t' σ H Q) : PT X e t := PT.dyn fun σ H Q ht => ⟨t', p, h σ H Q ht⟩
theorem PA.imp {X : Cx} {e : List Expr} {t t' : TA} (p : PA X e t') (h : ∀ σ H Q, t σ H Q → t' σ H Q) : PA X e t :=
  ⟨fun pos pins s σ H Q I ht => p.run pos pins s σ H Q I (h σ H Q ht)⟩
theorem PSs.imp {X : Cx} {e : List Stmt} {t t' : TS} (p : PSs X e t') (h : ∀ D σ H, t D σ H → t' D σ H) : PSs X e t :=
  ⟨fun pins s σ H D I ht => p.run pins s σ H D I (h D σ H ht)⟩
theorem PS.imp {X : Cx} {e : Stmt} {t t' : TS} (p : PS X e t') (h : ∀ D σ H, t D σ H → t' D σ H) : PS X e t :=
  ⟨fun pins s σ H D I ht => p.run pins s σ H D I (h D σ H ht)⟩
theorem PS.dyn {X : Cx} {e : Stmt} {t : TS} (h : ∀ D σ H, t D σ H → ∃ t', PS X e t' ∧ t' D σ H) : PS X e t :=
  ⟨fun pins s σ H D I ht => by obtain ⟨t', p, h'⟩ := h D σ H ht; exact p.run pins s σ H D I h'⟩
theorem OpR.dyn {X : Cx} {f : Value → Value → Sem Value} {r : R2} (h : ∀ x y H Q, r x y H Q → ∃ r', OpR X f r' ∧ r' x y H Q) : OpR X f r :=
  fun pins s σ H x y v u Q I a b hr => by obtain ⟨r', o, h'⟩ := h x y H Q hr; exact o pins s σ H x y v u Q I a b h'
theorem CallR.dyn {X : Cx} {f : Value} {r : List V → Hp → VK → Prop} (h : ∀ x H Q, r x H Q → ∃ r', CallR X f r' ∧ r' x H Q) : CallR X f r :=
  fun pins s σ H x u Q I a hr => by obtain ⟨r', o, h'⟩ := h x H Q hr; exact o pins s σ H x u Q I a h'
theorem MtR.dyn {X : Cx} {f : String} {r : V → List V → Hp → VK → Prop} (h : ∀ x y H Q, r x y H Q → ∃ r', MtR X f r' ∧ r' x y H Q) : MtR X f r :=
  fun pins s σ H x y v u Q I a b hr => by obtain ⟨r', o, h'⟩ := h x y H Q hr; exact o pins s σ H x y v u Q I a b h'
theorem UnR.dyn {X : Cx} {f : Value → Sem Value} {r : V → Hp → VK → Prop} (h : ∀ x H Q, r x H Q → ∃ r', UnR X f r' ∧ r' x H Q) : UnR X f r :=
  fun pins s σ H x v Q I a hr => by obtain ⟨r', o, h'⟩ := h x H Q hr; exact o pins s σ H x v Q I a h'
theorem IxR.dyn {X : Cx} {r : R2} (h : ∀ x y H Q, r x y H Q → ∃ r', IxR X r' ∧ r' x y H Q) : IxR X r :=
  fun va sl pins s σ H x y v u Q I a b hr => by obtain ⟨r', o, h'⟩ := h x y H Q hr; exact o va sl pins s σ H x y v u Q I a b h'
theorem SlR.dyn {X : Cx} {r : V → Option Int → Option Int → Hp → VK → Prop} (h : ∀ x y z H Q, r x y z H Q → ∃ r', SlR X r' ∧ r' x y z H Q) : SlR X r :=
  fun pins s σ H x v vl vu lo hi sl Q I a b e f hr => by obtain ⟨r', o, h'⟩ := h x lo hi H Q hr; exact o pins s σ H x v vl vu lo hi sl Q I a b e f h'

/-! ### shapes -/
def isStar : Expr → Bool | .Starred .. => true | _ => false
theorem notStar {e : Expr} {es : List Expr} {env : PySem.Env} (h : isStar e = false) : starEach (e :: es) env = (false, eval e env) :: starEach es env := by
  cases e <;> first | rfl | cases h
def bareCall : Expr → Bool | .Call (.Name _ _) [] [] _ => true | _ => false
theorem attrB {e : Expr} {f : Str} {env : PySem.Env} {w : Sem Value} (h : bareCall e = false) : attributeBase e f env w = w := by
  unfold attributeBase; split
  · cases h
  · rfl
def plainT : Expr → Bool | .BoolOp .. | .UnaryOp .. | .Compare .. | .Constant .. | .IfExp .. | .NamedExpr .. => false | _ => true
theorem plainT_ok {e : Expr} {env : PySem.Env} (h : plainT e = true) : ∀ whole, PySem.isTrue e env whole = (do let v ← whole; standAt e.pos; holding [v] (truthy v)) := by
  intro w; cases e <;> first | rfl | cases h
def okIx : Expr → Bool | .Slice .. => false | .Constant (.int _) _ _ => true | .Constant (.str _) _ _ => true | .Constant .. => false | _ => true
theorem noSl {e : Expr} (h : okIx e = true) : NoSl e := by
  intro o i; cases e <;> first | rfl | cases h | skip
def isSet : Expr → Bool | .Set .. => true | _ => false
theorem noFold {e : Expr} {env : PySem.Env} (h : isSet e = false) : ∀ x, foldedSetIterable e env x = pure x := by
  intro x; cases e <;> first | rfl | cases h
theorem noMark {op : CmpOp} {e : Expr} (h : isSet e = false) : behindInMarks op e = false := by
  cases e <;> first | rfl | cases h
theorem starsNil {env : PySem.Env} {pos : Pos} : ∀ {es : List Expr}, es.all (fun e => !isStar e) = true → ((backTo pos (starEach es env)).any fun x => x.1) = false
  | [], _ => rfl
  | e :: es, h => by
    simp only [List.all_cons, Bool.and_eq_true, Bool.not_eq_true'] at h
    rw [notStar h.1]
    have := starsNil (env := env) (pos := pos) h.2
    simpa [backTo] using this

/-! ### the readings -/
abbrev WX' := WX
def KQ (c : Cf) (Q : VK) : List Addr → Mem → MV → Hp → Prop := fun β' _ v H' => ∀ x, RV c.G β' H' v x → Q x H'
/-- the reading of an expression -/
def tE (c : Cf) (wx : WX) (m : ME) : TE := fun σ H Q => ∃ β M ρ, RelM c.G β M H ∧ RelS c.G β H ρ σ ∧ OkR c (fun cl d => wx cl d σ) β H (evalE c.P c.cal m ρ M) (KQ c Q)
/-- the HO of a new thing -/
def FO (c : Cf) (β : List Addr) (H : Hp) (v : MV) (o : HO) : Prop := match v with
  | .fls xs => ∃ ys, o = .lst ys ∧ RVs c.G β H xs ys
  | .fdc ks vs => ∃ kvs : List (L2.Key × V), o = .dK kvs ∧ ks = kvs.map (fun p => kM p.1) ∧ RVs c.G β H vs (kvs.map (·.2))
  | _ => False
/-- .. of one that gives a new object -/
def tF (c : Cf) (wx : WX) (m : ME) : TE := fun σ H Q => ∃ β M ρ, RelM c.G β M H ∧ RelS c.G β H ρ σ ∧ OkR c (fun cl d => wx cl d σ) β H (evalE c.P c.cal m ρ M) (fun β' _ v H' => ∀ p o, H' p = none → FO c β' H' v o → Q (.ref p) (upd H' p o))
def KA (c : Cf) (Q : List V → Hp → Prop) : List Addr → Mem → List MV → Hp → Prop := fun β' _ vs H' => ∀ xs, RVs c.G β' H' vs xs → Q xs H'
def tA (c : Cf) (wx : WX) (ms : List ME) : TA := fun σ H Q => ∃ β M ρ, RelM c.G β M H ∧ RelS c.G β H ρ σ ∧ OkR c (fun cl d => wx cl d σ) β H (evalEs c.P c.cal ms ρ M) (KA c Q)
def tAs (c : Cf) (wx : WX) (ms : List MA) : TA := fun σ H Q => ∃ β M ρ, RelM c.G β M H ∧ RelS c.G β H ρ σ ∧ OkR c (fun cl d => wx cl d σ) β H (evalAs c.P c.cal ms ρ M) (KA c Q)
/-- a test -/
def evT (c : Cf) (m : ME) (ρ : Env) (M : Mem) : Res Bool := (evalE c.P c.cal m ρ M).bind fun x M1 => Res.of (truth M1 x) M1
def tTst (c : Cf) (wx : WX) (m : ME) : TT := fun σ H Q => ∃ β M ρ, RelM c.G β M H ∧ RelS c.G β H ρ σ ∧ OkR c (fun cl d => wx cl d σ) β H (evT c m ρ M) (fun _ _ b H' => Q b H')
/-- what is given: z -/
def Gv (c : Cf) (β : List Addr) (M : Mem) (H : Hp) (z : MV) (Q : VK) : Prop := ∀ β' H' x', Step c.G β H β' H' → RelM c.G β' M H' → RV c.G β' H' z x' → Q x' H'
theorem Gv.now {c : Cf} {β : List Addr} {M : Mem} {H : Hp} {z : MV} {Q : VK} (g : Gv c β M H z Q) (rm : RelM c.G β M H) {x : V} (r : RV c.G β H z x) : Q x H := g β H x Step.rfl' rm r
theorem Gv.new {c : Cf} {β : List Addr} {M : Mem} {H : Hp} {z : MV} {Q : VK} (g : Gv c β M H z Q) (rm : RelM c.G β M H) {p : Addr} {o : HO} (hp : H p = none) (r : RV c.G β (upd H p o) z (.ref p)) : Q (.ref p) (upd H p o) := g β _ _ (Step.fresh o hp) (rm.new o hp) r
def r2 (c : Cf) (g : Mem → MV → MV → Option MV) : R2 := fun x y H Q => ∃ β M v u z, RelM c.G β M H ∧ RV c.G β H v x ∧ RV c.G β H u y ∧ g M v u = some z ∧ Gv c β M H z Q
def r1 (c : Cf) (g : Mem → MV → Option MV) : V → Hp → VK → Prop := fun x H Q => ∃ β M v z, RelM c.G β M H ∧ RV c.G β H v x ∧ g M v = some z ∧ Gv c β M H z Q
def rN (c : Cf) (g : Mem → List MV → Option MV) : List V → Hp → VK → Prop := fun xs H Q => ∃ β M vs z, RelM c.G β M H ∧ RVs c.G β H vs xs ∧ g M vs = some z ∧ Gv c β M H z Q
theorem gv_of {c : Cf} {w : Value → Option Addr → Hp → Prop} {β : List Addr} {M : Mem} {H : Hp} {o : Option MV} {Q : VK} (h : OkR c w β H (Res.of o M) (KQ c Q)) : ∃ z, o = some z ∧ Gv c β M H z Q := by
  obtain ⟨z, e, k⟩ := h.of
  exact ⟨z, e, fun β' H' x' s m r => k β' H' s m x' r⟩

/-- from the value's reading to the new object's -/
theorem OkR.later {c : Cf} {w : Value → Option Addr → Hp → Prop} {β : List Addr} {H : Hp} {α : Type} {r : Res α} {k : List Addr → Mem → α → Hp → Prop} (h : OkR c w β H r k) : OkR c w β H r (fun β' M' v H' => ∀ β'' H'', Step c.G β' H' β'' H'' → RelM c.G β'' M' H'' → k β'' M' v H'') := by
  cases r with
  | ok v M => exact fun β' H' s m β'' H'' s' m' => h β'' H'' (s.trans s') m'
  | ex cn ns vs M => exact h
  | err => exact h
theorem FO.rv {c : Cf} {β : List Addr} {M : Mem} {H : Hp} {v : MV} {o : HO} {p : Addr} (rm : RelM c.G β M H) (hp : H p = none) (f : FO c β H v o) : RV c.G β (upd H p o) v (.ref p) := by
  have st := Step.fresh (G := c.G) (β := β) o hp
  cases v with
  | fls xs => obtain ⟨ys, rfl, r⟩ := f; exact ⟨p, ys, rfl, ⟨rm.fresh hp, upd_same⟩, RVs.step st _ _ r⟩
  | fdc ks vs => obtain ⟨kvs, rfl, hk, r⟩ := f; exact ⟨p, kvs, rfl, rm.fresh hp, .inl upd_same, hk, RVs.step st _ _ r⟩
  | _ => exact f.elim
theorem tE_of_tF {c : Cf} {wx : WX} {X : Cx} {e : Expr} {m : ME} (h : PE X e (tF c wx m)) : PE X e (tE c wx m) := by
  refine PE.imp h fun σ H Q => ?_
  rintro ⟨β, M, ρ, rm, rs, ok⟩
  refine ⟨β, M, ρ, rm, rs, ok.later.imp fun β' M' v H' st rm' k p o hp fo => ?_⟩
  exact k β' _ (Step.fresh o hp) (rm'.new o hp) _ (FO.rv rm' hp fo)
theorem tE_box {c : Cf} {wx : WX} {X : Cx} {e : Expr} {m : ME} (h : PE X e (tF c wx m)) : PE X e (tE c wx (.box m)) := by
  refine PE.imp h fun σ H Q => ?_
  rintro ⟨β, M, ρ, rm, rs, ok⟩
  refine ⟨β, M, ρ, rm, rs, ?_⟩
  rw [evalE] at ok
  refine ok.bind.imp fun β' M' v H' st rm' k p o hp fo => ?_
  cases v with
  | fls xs =>
    obtain ⟨ys, rfl, r⟩ := fo
    have st' := Step.box (G := c.G) (β := β') (.lst ys) hp
    refine k (β' ++ [p]) _ st' (rm'.box _ (.lst xs) hp ⟨ys, upd_same, RVs.step st' _ _ r⟩) _ ⟨p, ?_, rfl⟩
    rw [← rm'.len]; simp
  | fdc ks vs =>
    obtain ⟨kvs, rfl, hk, r⟩ := fo
    have st' := Step.box (G := c.G) (β := β') (.dK kvs) hp
    refine k (β' ++ [p]) _ st' (rm'.box _ (.dct 0 ks vs) hp ⟨kvs, upd_same, hk, RVs.step st' _ _ r⟩) _ ⟨p, ?_, rfl⟩
    rw [← rm'.len]; simp
  | _ => exact fo.elim

/-! ### names, constants -/
theorem tE_lit {c : Cf} {wx : WX} {X : Cx} {e : Expr} {v : MV} {x : V} (h : PE X e (tC x)) (r : ∀ β H, RV c.G β H v x) : PE X e (tE c wx (.lit v)) := by
  refine PE.imp h fun σ H Q => ?_
  rintro ⟨β, M, ρ, rm, rs, ok⟩
  rw [evalE] at ok
  exact ok β H Step.rfl' rm x (r β H)
theorem tE_glo {c : Cf} {wx : WX} {X : Cx} {e : Expr} {n : Str} {v : MV} {x : V} (h : PE X e (tC x)) (r : ∀ β H, RV c.G β H v x) : PE X e (tE c wx (.glo n v)) := by
  refine PE.imp h fun σ H Q => ?_
  rintro ⟨β, M, ρ, rm, rs, ok⟩
  rw [evalE] at ok
  exact ok β H Step.rfl' rm x (r β H)
theorem tE_var {c : Cf} {wx : WX} {X : Cx} {e : Expr} {i : Nat} (h : PE X e (tVar i)) : PE X e (tE c wx (.var i)) := by
  refine PE.imp h fun σ H Q => ?_
  rintro ⟨β, M, ρ, rm, rs, ok⟩
  rw [evalE] at ok
  split at ok
  · rename_i v hv
    obtain ⟨x, hx, r⟩ := rs.2 i v hv
    exact ⟨x, hx, ok β H Step.rfl' rm x r⟩
  · exact ok.elim

/-! ### arguments -/
theorem tA_nil {c : Cf} {wx : WX} {X : Cx} : PA X [] (tA c wx []) := by
  refine PA.imp pa_nil fun σ H Q => ?_
  rintro ⟨β, M, ρ, rm, rs, ok⟩
  rw [evalEs] at ok
  exact ok β H Step.rfl' rm [] rfl
theorem tA_cons {c : Cf} {wx : WX} {X : Cx} {e : Expr} {es : List Expr} {m : ME} {ms : List ME} (s : isStar e = false) (h : PE X e (tE c wx m)) (t : PA X es (tA c wx ms)) : PA X (e :: es) (tA c wx (m :: ms)) := by
  refine PA.imp (pa_cons h t (notStar s)) fun σ H Q => ?_
  rintro ⟨β, M, ρ, rm, rs, ok⟩
  rw [evalEs] at ok
  refine ⟨β, M, ρ, rm, rs, ok.bind.imp fun β1 M1 v H1 st1 rm1 k x rx => ?_⟩
  refine ⟨β1, M1, ρ, rm1, rs.step st1, k.bind.imp fun β2 M2 vs H2 st2 rm2 k2 xs rxs => ?_⟩
  exact k2 β2 H2 Step.rfl' rm2 (x :: xs) ⟨x, xs, rfl, RV.step st2 _ _ rx, rxs⟩
theorem tAs_nil {c : Cf} {wx : WX} {X : Cx} : PA X [] (tAs c wx []) := by
  refine PA.imp pa_nil fun σ H Q => ?_
  rintro ⟨β, M, ρ, rm, rs, ok⟩
  rw [evalAs] at ok
  exact ok β H Step.rfl' rm [] rfl
theorem tAs_cons {c : Cf} {wx : WX} {X : Cx} {e : Expr} {es : List Expr} {m : ME} {ms : List MA} (s : isStar e = false) (h : PE X e (tE c wx m)) (t : PA X es (tAs c wx ms)) : PA X (e :: es) (tAs c wx (.e m :: ms)) := by
  refine PA.imp (pa_cons h t (notStar s)) fun σ H Q => ?_
  rintro ⟨β, M, ρ, rm, rs, ok⟩
  rw [evalAs] at ok
  refine ⟨β, M, ρ, rm, rs, ok.bind.imp fun β1 M1 v H1 st1 rm1 k x rx => ?_⟩
  refine ⟨β1, M1, ρ, rm1, rs.step st1, k.bind.imp fun β2 M2 vs H2 st2 rm2 k2 xs rxs => ?_⟩
  exact k2 β2 H2 Step.rfl' rm2 (x :: xs) ⟨x, xs, rfl, RV.step st2 _ _ rx, rxs⟩

/-! ### displays -/
theorem line_eq : LINE = sizeLine := by rw [sizeLine_eq]; rfl
theorem tE_tup {c : Cf} {wx : WX} {X : Cx} {es : List Expr} {pos : Pos} {k : Nat} {ms : List MA} (h : PA X es (tAs c wx ms)) : PE X (.Tuple es k pos) (tE c wx (.tupE ms)) := by
  refine PE.imp (pe_tup h) fun σ H Q => ?_
  rintro ⟨β, M, ρ, rm, rs, ok⟩
  rw [evalE] at ok
  refine ⟨β, M, ρ, rm, rs, ok.bind.imp fun β1 M1 vs H1 st1 rm1 k xs rxs => ?_⟩
  split at k
  · rename_i hl
    refine ⟨by rw [rxs.len, ← line_eq]; exact hl, fun p hp => ?_⟩
    exact k β1 _ (Step.fresh _ hp) (rm1.new _ hp) _ ⟨p, xs, rfl, .inl ⟨rm1.fresh hp, upd_same⟩, RVs.step (Step.fresh _ hp) _ _ rxs⟩
  · exact k.elim
theorem tF_lst {c : Cf} {wx : WX} {X : Cx} {es : List Expr} {pos : Pos} {ms : List MA} (h : PA X es (tAs c wx ms)) : PE X (.List es pos) (tF c wx (.lstE ms)) := by
  refine PE.imp (pe_lst h) fun σ H Q => ?_
  rintro ⟨β, M, ρ, rm, rs, ok⟩
  rw [evalE] at ok
  refine ⟨β, M, ρ, rm, rs, ok.bind.imp fun β1 M1 vs H1 st1 rm1 k xs rxs => ?_⟩
  split at k
  · rename_i hl
    refine ⟨by rw [rxs.len, ← line_eq]; exact hl, fun p hp => ?_⟩
    exact k β1 _ Step.rfl' rm1 p _ hp ⟨xs, rfl, rxs⟩
  · exact k.elim

/-! ### operators -/
theorem tE_op2 {c : Cf} {wx : WX} {X : Cx} {a b : Expr} {op : Operator} {ma mb : ME} {pos : Pos} (g : Mem → MV → MV → Option MV) (o : OpR X (binaryOp op) (r2 c g)) (ha : PE X a (tE c wx ma)) (hb : PE X b (tE c wx mb)) (m : ME)
    (e : ∀ ρ M, evalE c.P c.cal m ρ M = (evalE c.P c.cal ma ρ M).bind fun x M1 => (evalE c.P c.cal mb ρ M1).bind fun y M2 => Res.of (g M2 x y) M2) : PE X (.BinOp a op b pos) (tE c wx m) := by
  refine PE.imp (pe_op o ha hb) fun σ H Q => ?_
  rintro ⟨β, M, ρ, rm, rs, ok⟩
  rw [e] at ok
  refine ⟨β, M, ρ, rm, rs, ok.bind.imp fun β1 M1 v H1 st1 rm1 k x rx => ?_⟩
  refine ⟨β1, M1, ρ, rm1, rs.step st1, k.bind.imp fun β2 M2 u H2 st2 rm2 k2 y ry => ?_⟩
  obtain ⟨z, hz, gv⟩ := gv_of k2
  exact ⟨β2, M2, v, u, z, rm2, RV.step st2 _ _ rx, ry, hz, gv⟩
end Mi
/-! Mini, part F: operators, comparisons. -/
set_option autoImplicit false
set_option linter.all false
namespace Mi
open PySem L2

theorem RV.non_inv {G : Wd} {β : List Addr} {H : Hp} {v : MV} (h : RV G β H v .non) : v = .non := by
  cases v with
  | non => rfl
  | bl b => cases (show _ = _ from h)
  | int b => cases (show _ = _ from h)
  | str b => cases (show _ = _ from h)
  | tup xs => obtain ⟨_, _, e, _⟩ := h; cases e
  | fls xs => obtain ⟨_, _, e, _⟩ := h; cases e
  | scr xs => obtain ⟨_, _, e, _⟩ := h; cases e
  | fdc ks vs => obtain ⟨_, _, e, _⟩ := h; cases e
  | obj c ns vs => obtain ⟨_, _, _, _, e, _⟩ := h; cases e
  | exn c ns vs => obtain ⟨_, _, _, _, _, e, _⟩ := h; cases e
  | ref a => obtain ⟨_, _, e⟩ := h; cases e
theorem RV.isNon {G : Wd} {β : List Addr} {H : Hp} {v : MV} {x : V} (h : RV G β H v x) : decide (x = .non) = decide (v = .non) := by
  by_cases e : v = .non
  · subst e
    have : x = .non := h
    subst this; simp
  · have : x ≠ .non := fun z => by subst z; exact e h.non_inv
    simp [e, this]
theorem RVs.nil {G : Wd} {β : List Addr} {H : Hp} {vs : List MV} {xs : List V} (h : RVs G β H vs xs) : (xs.isEmpty) = vs.isEmpty := by
  have := h.len
  cases vs <;> cases xs <;> first | rfl | (simp at this)

theorem truV {c : Cf} {β : List Addr} {M : Mem} {H : Hp} {v : MV} {x : V} {b : Bool} (rm : RelM c.G β M H) (r : RV c.G β H v x) (t : truth M v = some b) : TruV c.G.K x H b := by
  cases v with
  | non => cases (show x = _ from r); cases t; rfl
  | bl k => cases (show x = _ from r); cases t; rfl
  | int i => cases (show x = _ from r); cases t; rfl
  | str s =>
    cases (show x = _ from r)
    change (if s.length ≤ LINE then some (s.length != 0) else none) = some b at t
    split at t
    · rename_i hl
      cases t
      refine ⟨by rw [← line_eq]; exact hl, ?_⟩
      by_cases z : s.length = 0
      · rw [z]; rfl
      · have : ((s.length : Nat) : Int) ≠ 0 := by omega
        exact (bne_iff_ne.mpr z).trans (bne_iff_ne.mpr this).symm
    · cases t
  | tup xs =>
    obtain ⟨a, ys, rfl, f, rs⟩ := r
    cases t
    exact .inr (.inl ⟨ys, f.sq, by rw [rs.nil]⟩)
  | fls xs =>
    obtain ⟨a, ys, rfl, f, rs⟩ := r
    cases t
    exact .inl ⟨ys, .inl (.inl f.2), by rw [rs.nil]⟩
  | ref i =>
    obtain ⟨a, ha, rfl⟩ := r
    obtain ⟨o, ho, ro⟩ := rm.get ha
    simp only [truth, ho] at t
    cases o with
    | lst xs =>
      obtain ⟨ys, hy, rs⟩ := ro
      cases t
      exact .inl ⟨ys, .inl (.inl hy), by rw [rs.nil]⟩
    | dct ep ks vs =>
      obtain ⟨kvs, hy, hk, rs⟩ := ro
      cases t
      exact .inr (.inr ⟨kvs, hy, by rw [hk]; cases kvs <;> rfl⟩)
    | _ => cases t
  | _ => cases t

/-! ### arithmetic -/
theorem op_powX {X : Cx} : OpR X (binaryOp .Pow) (rI (fun i j => 0 ≤ j ∧ ((Builtin.Int.intBits i : Nat) : Int) * j ≤ 2 ^ 27) fun i j => .int (i ^ j.toNat)) :=
  opI fun i j t u s Q E hc q => PyProof.Rows.pow_int hc.1 hc.2 q
theorem r2_int {c : Cf} {X : Cx} {f : Value → Value → Sem Value} {C : Int → Int → Prop} {g : Int → Int → Int} (o : OpR X f (rI C fun i j => .int (g i j))) {β : List Addr} {M : Mem} {H : Hp} {i j : Int} {Q : VK} (h : C i j) (rm : RelM c.G β M H) (gv : Gv c β M H (.int (g i j)) Q) : ∃ r', OpR X f r' ∧ r' (.int i) (.int j) H Q :=
  ⟨_, o, i, j, rfl, rfl, h, gv.now rm rfl⟩
theorem r2_int0 {c : Cf} {X : Cx} {f : Value → Value → Sem Value} {g : Int → Int → Int} (o : OpR X f (rI0 fun i j => .int (g i j))) {β : List Addr} {M : Mem} {H : Hp} {i j : Int} {Q : VK} (rm : RelM c.G β M H) (gv : Gv c β M H (.int (g i j)) Q) : ∃ r', OpR X f r' ∧ r' (.int i) (.int j) H Q :=
  ⟨_, o, i, j, rfl, rfl, gv.now rm rfl⟩
theorem op_ints {c : Cf} {X : Cx} {op : Operator} {β : List Addr} {M : Mem} {H : Hp} {i j : Int} {z : Int} {Q : VK} (h : binI op i j = some z) (rm : RelM c.G β M H) (gv : Gv c β M H (.int z) Q) : ∃ r', OpR X (binaryOp op) r' ∧ r' (.int i) (.int j) H Q := by
  cases op with
  | Add => cases h; exact r2_int0 op_add rm gv
  | Sub => cases h; exact r2_int0 op_sub rm gv
  | Mult =>
    simp only [binI] at h
    split at h
    · rename_i hc
      cases h
      exact r2_int op_mulX (by simpa [mulOk, CMulX] using hc) rm gv
    · cases h
  | FloorDiv =>
    simp only [binI] at h
    split at h
    · rename_i hc
      cases h
      exact r2_int op_fdivN (by simpa [divOk, CDivN] using hc) rm gv
    · cases h
  | Mod =>
    simp only [binI] at h
    split at h
    · cases h
    · rename_i hc
      cases h
      exact r2_int op_modN hc rm gv
  | Pow =>
    simp only [binI] at h
    split at h
    · rename_i hc
      cases h
      exact r2_int op_powX (by simpa [pow2ok] using hc) rm gv
    · cases h
  | _ => cases h
/-- where a list stands -/
theorem lst_at {c : Cf} {β : List Addr} {M : Mem} {H : Hp} {v : MV} {x : V} {xs : List MV} (rm : RelM c.G β M H) (r : RV c.G β H v x) (h : lst? M v = some xs) : ∃ a ys, x = .ref a ∧ H a = some (.lst ys) ∧ RVs c.G β H xs ys := by
  cases v with
  | fls zs => cases h; obtain ⟨a, ys, rfl, f, rs⟩ := r; exact ⟨a, ys, rfl, f.2, rs⟩
  | ref i =>
    obtain ⟨a, ha, rfl⟩ := r
    obtain ⟨o, ho, ro⟩ := rm.get ha
    simp only [lst?, ho] at h
    cases o with
    | lst zs => cases h; obtain ⟨ys, hy, rs⟩ := ro; exact ⟨a, ys, rfl, hy, rs⟩
    | _ => cases h
  | _ => cases h
theorem op_bin {c : Cf} {X : Cx} (hK : X.K = c.G.K) (op : Operator) : OpR X (binaryOp op) (r2 c fun M v w => binM M op v w) := by
  refine OpR.dyn fun x y H Q => ?_
  rintro ⟨β, M, v, u, z, rm, rv, ru, hz, gv⟩
  change binM M op v u = some z at hz
  unfold binM at hz
  split at hz
  · rename_i i j
    cases (show x = _ from rv); cases (show y = _ from ru)
    obtain ⟨k, hk, rfl⟩ := Option.map_eq_some_iff.mp hz
    exact op_ints hk rm gv
  · rename_i s t
    cases (show x = _ from rv); cases (show y = _ from ru)
    split at hz
    · rename_i hc
      cases hz
      obtain ⟨rfl, hl⟩ := hc
      exact ⟨_, op_add_str, s, t, rfl, rfl, by rw [← line_eq]; exact hl, gv.now rm rfl⟩
    · cases hz
  · rename_i xs ys
    obtain ⟨a, xs', rfl, fa, ra⟩ := rv
    obtain ⟨b, ys', rfl, fb, rb⟩ := ru
    split at hz
    · rename_i hc
      cases hz
      obtain ⟨rfl, hne, hl⟩ := hc
      refine ⟨_, op_catT, a, b, xs', ys', rfl, rfl, hK ▸ fa.sq, hK ▸ fb.sq, ?_, ?_, ?_, ?_⟩
      · rintro rfl
        cases xs with
        | nil => exact hne rfl
        | cons _ _ => obtain ⟨_, _, e, _⟩ := ra; cases e
      · rw [ra.len, rb.len, ← line_eq]; exact hl
      · rintro rfl
        have : ys = [] := by
          cases ys with
          | nil => rfl
          | cons _ _ => obtain ⟨_, _, e, _⟩ := rb; cases e
        subst this
        exact gv.now rm ⟨a, xs', rfl, fa, by simpa using ra⟩
      · intro _ p hp
        exact gv.new rm hp ⟨p, _, rfl, .inl ⟨rm.fresh hp, upd_same⟩, RVs.step (Step.fresh _ hp) _ _ (ra.app rb)⟩
    · cases hz
  · split at hz
    · rename_i xs ys hx hy
      obtain ⟨a, xs', rfl, fa, ra⟩ := lst_at rm rv hx
      obtain ⟨b, ys', rfl, fb, rb⟩ := lst_at rm ru hy
      split at hz
      · rename_i hc
        cases hz
        obtain ⟨rfl, hl⟩ := hc
        refine ⟨_, op_cat, a, b, xs', ys', rfl, rfl, fa, fb, by rw [ra.len, rb.len, ← line_eq]; exact hl, fun p hp => ?_⟩
        exact gv.new rm hp ⟨p, _, rfl, ⟨rm.fresh hp, upd_same⟩, RVs.step (Step.fresh _ hp) _ _ (ra.app rb)⟩
      · cases hz
    · cases hz
theorem tE_bin {c : Cf} {wx : WX} {X : Cx} (hK : X.K = c.G.K) {a b : Expr} {op : Operator} {ma mb : ME} {pos : Pos} (ha : PE X a (tE c wx ma)) (hb : PE X b (tE c wx mb)) : PE X (.BinOp a op b pos) (tE c wx (.bin op ma mb)) :=
  tE_op2 _ (op_bin hK op) ha hb _ fun ρ M => by rw [evalE]
/-- + of lists as a new thing -/
theorem tF_cat {c : Cf} {wx : WX} {X : Cx} {a b : Expr} {ma mb : ME} {pos : Pos} (ha : PE X a (tE c wx ma)) (hb : PE X b (tE c wx mb)) (hn : True) : True := trivial
theorem tE_neg {c : Cf} {wx : WX} {X : Cx} {a : Expr} {ma : ME} {pos : Pos} (ha : PE X a (tE c wx ma)) : PE X (.UnaryOp .USub a pos) (tE c wx (.neg ma)) := by
  refine PE.imp (pe_un un_neg ha) fun σ H Q => ?_
  rintro ⟨β, M, ρ, rm, rs, ok⟩
  rw [evalE] at ok
  refine ⟨β, M, ρ, rm, rs, ok.bind.imp fun β1 M1 v H1 st1 rm1 k x rx => ?_⟩
  split at k
  · rename_i i
    cases (show x = _ from rx)
    exact ⟨i, rfl, k β1 H1 Step.rfl' rm1 _ rfl⟩
  · exact k.elim
theorem tE_not {c : Cf} {wx : WX} {X : Cx} (hK : X.K = c.G.K) {a : Expr} {ma : ME} {pos : Pos} (ha : PE X a (tE c wx ma)) : PE X (.UnaryOp .Not a pos) (tE c wx (.notE ma)) := by
  refine PE.imp (pe_notT ha) fun σ H Q => ?_
  rintro ⟨β, M, ρ, rm, rs, ok⟩
  rw [evalE] at ok
  refine ⟨β, M, ρ, rm, rs, ok.bind.imp fun β1 M1 v H1 st1 rm1 k x rx => ?_⟩
  split at k
  · rename_i b hb
    exact ⟨b, hK ▸ truV rm1 rx hb, k β1 H1 Step.rfl' rm1 _ rfl⟩
  · exact k.elim
theorem tE_and {c : Cf} {wx : WX} {X : Cx} (hK : X.K = c.G.K) {a b : Expr} {rest : List Expr} {ma mb : ME} {pos : Pos} (ha : PE X a (tE c wx ma)) (hb : PE X (.BoolOp .And (b :: rest) pos) (tE c wx mb)) : PE X (.BoolOp .And (a :: b :: rest) pos) (tE c wx (.andE ma mb)) := by
  refine PE.imp (pe_andT ha hb) fun σ H Q => ?_
  rintro ⟨β, M, ρ, rm, rs, ok⟩
  rw [evalE] at ok
  refine ⟨β, M, ρ, rm, rs, ok.bind.imp fun β1 M1 v H1 st1 rm1 k x rx => ?_⟩
  split at k
  · rename_i hb
    exact ⟨true, hK ▸ truV rm1 rx hb, ⟨β1, M1, ρ, rm1, rs.step st1, k⟩⟩
  · rename_i hb
    exact ⟨false, hK ▸ truV rm1 rx hb, k β1 H1 Step.rfl' rm1 _ rx⟩
  · exact k.elim
theorem tE_or {c : Cf} {wx : WX} {X : Cx} (hK : X.K = c.G.K) {a b : Expr} {rest : List Expr} {ma mb : ME} {pos : Pos} (ha : PE X a (tE c wx ma)) (hb : PE X (.BoolOp .Or (b :: rest) pos) (tE c wx mb)) : PE X (.BoolOp .Or (a :: b :: rest) pos) (tE c wx (.orE ma mb)) := by
  refine PE.imp (pe_orT ha hb) fun σ H Q => ?_
  rintro ⟨β, M, ρ, rm, rs, ok⟩
  rw [evalE] at ok
  refine ⟨β, M, ρ, rm, rs, ok.bind.imp fun β1 M1 v H1 st1 rm1 k x rx => ?_⟩
  split at k
  · rename_i hb
    exact ⟨true, hK ▸ truV rm1 rx hb, k β1 H1 Step.rfl' rm1 _ rx⟩
  · rename_i hb
    exact ⟨false, hK ▸ truV rm1 rx hb, ⟨β1, M1, ρ, rm1, rs.step st1, k⟩⟩
  · exact k.elim
theorem tE_ifE {c : Cf} {wx : WX} {X : Cx} {t a b : Expr} {mt ma mb : ME} {pos : Pos} (ht : PT X t (tTst c wx mt)) (ha : PE X a (tE c wx ma)) (hb : PE X b (tE c wx mb)) : PE X (.IfExp t a b pos) (tE c wx (.ifE mt ma mb)) := by
  refine PE.imp (pe_ifExp ht ha hb) fun σ H Q => ?_
  rintro ⟨β, M, ρ, rm, rs, ok⟩
  rw [evalE] at ok
  refine ⟨β, M, ρ, rm, rs, ?_⟩
  unfold evT
  revert ok
  cases evalE c.P c.cal mt ρ M with
  | err => exact fun h => h
  | ex cn ns vs M' => exact fun h => h
  | ok v M1 =>
    intro ok
    simp only [Res.bind] at ok ⊢
    cases hb : truth M1 v with
    | none => rw [hb] at ok; exact ok.elim
    | some b =>
      rw [hb] at ok
      intro β' H' st rm'
      cases b with
      | true => exact ⟨β', M1, ρ, rm', rs.step st, ok.from st⟩
      | false => exact ⟨β', M1, ρ, rm', rs.step st, ok.from st⟩

/-! ### tests -/
theorem tT_of {c : Cf} {wx : WX} {X : Cx} (hK : X.K = c.G.K) {e : Expr} {m : ME} (he : PE X e (tE c wx m)) (hp : plainT e = true) : PT X e (tTst c wx m) := by
  refine PT.imp (pt_truth he (plainT_ok hp)) fun σ H Q => ?_
  rintro ⟨β, M, ρ, rm, rs, ok⟩
  refine ⟨β, M, ρ, rm, rs, ok.bind.imp fun β1 M1 v H1 st1 rm1 k x rx => ?_⟩
  obtain ⟨b, hb, k⟩ := k.of
  exact ⟨b, hK ▸ truV rm1 rx hb, k β1 H1 Step.rfl' rm1⟩
theorem tT_not {c : Cf} {wx : WX} {X : Cx} {a : Expr} {ma : ME} {pos : Pos} (ha : PT X a (tTst c wx ma)) : PT X (.UnaryOp .Not a pos) (tTst c wx (.notE ma)) := by
  refine PT.imp (pt_not ha) fun σ H Q => ?_
  rintro ⟨β, M, ρ, rm, rs, ok⟩
  refine ⟨β, M, ρ, rm, rs, ?_⟩
  unfold evT at ok ⊢
  rw [evalE] at ok
  revert ok
  cases evalE c.P c.cal ma ρ M with
  | err => exact fun h => h
  | ex cn ns vs M' => exact fun h => h
  | ok v M1 =>
    simp only [Res.bind]
    cases hb : truth M1 v with
    | none => exact fun h => h.elim
    | some b => exact fun ok β' H' st rm' => ok β' H' st rm'
theorem tT_val {c : Cf} {wx : WX} {X : Cx} {e : Expr} {m : ME} (he : PT X e (tB (tE c wx m))) (hb : ∀ ρ M v M', evalE c.P c.cal m ρ M = .ok v M' → ∃ b, v = .bl b) : PT X e (tTst c wx m) := by
  refine PT.imp he fun σ H Q => ?_
  rintro ⟨β, M, ρ, rm, rs, ok⟩
  refine ⟨β, M, ρ, rm, rs, ?_⟩
  unfold evT at ok
  revert ok
  cases he : evalE c.P c.cal m ρ M with
  | err => exact fun h => h
  | ex cn ns vs M' => exact fun h => h
  | ok v M1 =>
    obtain ⟨b, rfl⟩ := hb ρ M v M1 he
    simp only [Res.bind, truth, Res.of]
    exact fun ok β' H' st rm' x rx => ⟨b, rx, ok β' H' st rm'⟩
theorem PW.imp {X : Cx} {e : Expr} {t t' : TT} (p : PW X e t') (h : ∀ σ H Q, t σ H Q → t' σ H Q) : PW X e t :=
  ⟨fun whole pins s σ H Q I ht => p.run whole pins s σ H Q I (h σ H Q ht)⟩
theorem tT_and {c : Cf} {wx : WX} {X : Cx} {a b : Expr} {rest : List Expr} {ma mb : ME} {pos : Pos} (ha : PT X a (tTst c wx ma)) (hb : PW X (.BoolOp .And (b :: rest) pos) (tTst c wx mb)) : PW X (.BoolOp .And (a :: b :: rest) pos) (tTst c wx (.andE ma mb)) := by
  refine PW.imp (pw_and ha hb) fun σ H Q => ?_
  rintro ⟨β, M, ρ, rm, rs, ok⟩
  refine ⟨β, M, ρ, rm, rs, ?_⟩
  unfold evT at ok ⊢
  rw [evalE] at ok
  revert ok
  cases evalE c.P c.cal ma ρ M with
  | err => exact fun h => h
  | ex cn ns vs M' => exact fun h => h
  | ok v M1 =>
    simp only [Res.bind]
    cases hb : truth M1 v with
    | none => exact fun h => h.elim
    | some k =>
      cases k with
      | true =>
        intro ok β' H' st rm'
        exact ⟨β', M1, ρ, rm', rs.step st, OkR.from ok st⟩
      | false =>
        simp only [hb, Res.of]
        exact fun ok β' H' st rm' => ok β' H' st rm'
theorem tT_or {c : Cf} {wx : WX} {X : Cx} {a b : Expr} {rest : List Expr} {ma mb : ME} {pos : Pos} (ha : PT X a (tTst c wx ma)) (hb : PW X (.BoolOp .Or (b :: rest) pos) (tTst c wx mb)) : PW X (.BoolOp .Or (a :: b :: rest) pos) (tTst c wx (.orE ma mb)) := by
  refine PW.imp (pw_or ha hb) fun σ H Q => ?_
  rintro ⟨β, M, ρ, rm, rs, ok⟩
  refine ⟨β, M, ρ, rm, rs, ?_⟩
  unfold evT at ok ⊢
  rw [evalE] at ok
  revert ok
  cases evalE c.P c.cal ma ρ M with
  | err => exact fun h => h
  | ex cn ns vs M' => exact fun h => h
  | ok v M1 =>
    simp only [Res.bind]
    cases hb : truth M1 v with
    | none => exact fun h => h.elim
    | some k =>
      cases k with
      | true =>
        simp only [hb, Res.of]
        exact fun ok β' H' st rm' => ok β' H' st rm'
      | false =>
        intro ok β' H' st rm'
        exact ⟨β', M1, ρ, rm', rs.step st, OkR.from ok st⟩
end Mi
/-! Mini, part G: comparisons, subscripts. -/
set_option autoImplicit false
set_option linter.all false
namespace Mi
open PySem L2

theorem ix_dict {X : Cx} (hu : X.A.units + 1 < cLine) : IxR X (fun x y H Q => ∃ a v, x = .ref a ∧ DGet H a y (some v) ∧ Q v H) := by
  intro value slice pins s σ H x y v u Q I rx ry h hs
  obtain ⟨a, w, rfl, g, q⟩ := h
  cases (show v = .ref a from rx)
  have hT := dict_typeIs I g
  unfold PyProof.Rows.subscriptTail
  refine wpAny_bind ?_
  rw [getitemInPython_of_ne hT.not_modules]
  refine wpAny_bind (wpAny_specialOf hT F.slot_dict_getitem.lookup ?_)
  refine wpAny_pure (wpAny_bind ?_)
  rw [hs]
  refine wpAny_operating (wpAny_mono (d_getItem hu I g ry fun w' s3 I3 rw' => ⟨w, H, I3, rw', q⟩) (fun r s₃ h₃ => wpAny_bind (wpAny_letTemporaryGo (wpAny_pure h₃))) fun _ _ z => z)
theorem op_dIn {X : Cx} (hu : X.A.units + 1 < cLine) : OpR X (compareOp .In) (fun y x H Q => ∃ a o, x = .ref a ∧ DGet H a y o ∧ Q (.bl o.isSome) H) := by
  intro pins s σ H y x v u Q I ry rx h
  obtain ⟨a, o, rfl, g, q⟩ := h
  cases (show u = .ref a from rx)
  exact d_in hu I g ry fun s3 I3 => ⟨.bl o.isSome, H, I3, rfl, q⟩
theorem op_dNotIn {X : Cx} (hu : X.A.units + 1 < cLine) : OpR X (compareOp .NotIn) (fun y x H Q => ∃ a o, x = .ref a ∧ DGet H a y o ∧ Q (.bl (!o.isSome)) H) := by
  intro pins s σ H y x v u Q I ry rx h
  obtain ⟨a, o, rfl, g, q⟩ := h
  cases (show u = .ref a from rx)
  exact d_notIn hu I g ry fun s3 I3 => ⟨.bl (!o.isSome), H, I3, rfl, q⟩

/-! ### data -/
mutual
theorem dp_of {G : Wd} {β : List Addr} {H : Hp} : ∀ {v : MV} {x : V} {d : PyData}, RV G β H v x → pd v = some d → Dp G.K H x d
  | .non, x, d, r, h => by cases (show x = _ from r); cases h; exact .non
  | .bl b, x, d, r, h => by cases (show x = _ from r); cases h; exact .bl b
  | .int b, x, d, r, h => by cases (show x = _ from r); cases h; exact .int b
  | .str b, x, d, r, h => by cases (show x = _ from r); cases h; exact .str b
  | .tup xs, x, d, ⟨a, ys, e, f, rs⟩, h => by
    obtain ⟨ds, hd, rfl⟩ := Option.map_eq_some_iff.mp h
    subst e; exact .tup f.sq (dps_of rs hd)
  | .fls xs, x, d, ⟨a, ys, e, f, rs⟩, h => by
    obtain ⟨ds, hd, rfl⟩ := Option.map_eq_some_iff.mp h
    subst e; exact .lst (.inl (.inl f.2)) (dps_of rs hd)
  | .scr _, _, _, _, h => by cases h
  | .fdc _ _, _, _, _, h => by cases h
  | .obj _ _ _, _, _, _, h => by cases h
  | .exn _ _ _, _, _, _, h => by cases h
  | .ref _, _, _, _, h => by cases h
theorem dps_of {G : Wd} {β : List Addr} {H : Hp} : ∀ {vs : List MV} {xs : List V} {ds : List PyData}, RVs G β H vs xs → pds vs = some ds → DpAll G.K H xs ds
  | [], xs, ds, r, h => by cases (show xs = _ from r); cases h; exact .nil
  | v :: vs, xs, ds, ⟨y, t, e, r, rs⟩, h => by
    subst e
    simp only [pds] at h
    split at h
    · rename_i d ds' h1 h2
      cases h
      exact .cons (dp_of r h1) (dps_of rs h2)
    · cases h
end
theorem dp1 {c : Cf} {β : List Addr} {M : Mem} {H : Hp} {v : MV} {x : V} {d : PyData} (rm : RelM c.G β M H) (r : RV c.G β H v x) (h : dat1 M v = some d) : Dp c.G.K H x d := by
  cases v with
  | ref i =>
    obtain ⟨a, ha, rfl⟩ := r
    obtain ⟨o, ho, ro⟩ := rm.get ha
    simp only [dat1, ho] at h
    cases o with
    | lst xs =>
      obtain ⟨ys, hy, rs⟩ := ro
      obtain ⟨ds, hd, rfl⟩ := Option.map_eq_some_iff.mp h
      exact .lst (.inl (.inl hy)) (dps_of rs hd)
    | _ => cases h
  | non => exact dp_of r h
  | bl b => exact dp_of r h
  | int b => exact dp_of r h
  | str b => exact dp_of r h
  | tup b => exact dp_of r h
  | fls b => exact dp_of r h
  | _ => cases h

/-! ### dicts -/
theorem kM_inj {a b : L2.Key} (h : kM a = kM b) : a = b := by
  cases a <;> cases b <;> cases h <;> rfl
theorem isK_k {v : MV} (h : isK v = true) : ∃ k, v = kM k := by
  cases v with
  | int i => exact ⟨.inl i, rfl⟩
  | str i => exact ⟨.inr i, rfl⟩
  | _ => cases h
theorem RV.kV {G : Wd} {β : List Addr} {H : Hp} {k : L2.Key} {x : V} (r : RV G β H (kM k) x) : x = L2.kV k := by
  cases k <;> exact r
theorem RV.ofK {G : Wd} {β : List Addr} {H : Hp} (k : L2.Key) : RV G β H (kM k) (L2.kV k) := by
  cases k <;> exact rfl
theorem dget_rel {G : Wd} {β : List Addr} {H : Hp} (k : L2.Key) : ∀ {kvs : List (L2.Key × V)} {vs : List MV}, RVs G β H vs (kvs.map (·.2)) →
    match dfind (kvs.map fun p => kM p.1) (kM k) with
    | some i => ∃ w x, vs[i]? = some w ∧ valV kvs k = some x ∧ RV G β H w x ∧ (kvs.any fun kv => decide (kv.1 = k)) = true
    | none => valV kvs k = none ∧ (kvs.any fun kv => decide (kv.1 = k)) = false
  | [], vs, _ => ⟨rfl, rfl⟩
  | p :: kvs, vs, r => by
    cases vs with
    | nil => cases (show _ = _ from r)
    | cons v vs =>
      obtain ⟨y, t, e, r0, rs⟩ := r
      cases e
      by_cases c : p.1 = k
      · have : dfind ((p :: kvs).map fun p => kM p.1) (kM k) = some 0 := by simp [dfind, c]
        rw [this]
        exact ⟨v, p.2, rfl, by simp [valV, c], r0, by simp [c]⟩
      · have c' : kM p.1 ≠ kM k := fun z => c (kM_inj z)
        have ih := dget_rel k rs
        have : dfind ((p :: kvs).map fun p => kM p.1) (kM k) = (dfind (kvs.map fun p => kM p.1) (kM k)).map (· + 1) := by simp [dfind, c']
        rw [this]
        revert ih
        cases dfind (kvs.map fun p => kM p.1) (kM k) with
        | none =>
          rintro ⟨a, b⟩
          exact ⟨by simpa [valV, c] using a, by simp [c]; simpa using b⟩
        | some i =>
          rintro ⟨w, x, a, b, d, e⟩
          exact ⟨w, x, by simpa using a, by simpa [valV, c] using b, d, by rw [List.any_cons, e]; simp⟩
theorem dfind_isSome {G : Wd} {β : List Addr} {H : Hp} {k : L2.Key} {kvs : List (L2.Key × V)} {vs : List MV} (r : RVs G β H vs (kvs.map (·.2))) : (dfind (kvs.map fun p => kM p.1) (kM k)).isSome = (valV kvs k).isSome := by
  have := dget_rel k r
  revert this
  cases dfind (kvs.map fun p => kM p.1) (kM k) with
  | none => rintro ⟨a, _⟩; rw [a]; rfl
  | some i => rintro ⟨w, x, _, b, _⟩; rw [b]; rfl
theorem dget_some {G : Wd} {β : List Addr} {H : Hp} {k : L2.Key} {kvs : List (L2.Key × V)} {vs : List MV} {w : MV} (r : RVs G β H vs (kvs.map (·.2))) (h : dget (kvs.map fun p => kM p.1) vs (kM k) = some w) : ∃ x, valV kvs k = some x ∧ RV G β H w x := by
  have := dget_rel k r
  revert this
  unfold dget at h
  cases hd : dfind (kvs.map fun p => kM p.1) (kM k) with
  | none => rw [hd] at h; cases h
  | some i =>
    rw [hd] at h
    rintro ⟨w', x, a, b, d, _⟩
    rw [show vs[i]? = some w from h] at a
    cases a
    exact ⟨x, b, d⟩
theorem dget_none {G : Wd} {β : List Addr} {H : Hp} {k : L2.Key} {kvs : List (L2.Key × V)} {vs : List MV} (r : RVs G β H vs (kvs.map (·.2))) (h : dget (kvs.map fun p => kM p.1) vs (kM k) = none) : valV kvs k = none := by
  have := dget_rel k r
  revert this
  unfold dget at h
  cases hd : dfind (kvs.map fun p => kM p.1) (kM k) with
  | none => rintro ⟨a, _⟩; exact a
  | some i =>
    rw [hd] at h
    rintro ⟨w', x, a, b, d, _⟩
    rw [show vs[i]? = none from h] at a
    cases a
/-- where a dict stands -/
theorem dict_at {c : Cf} {β : List Addr} {M : Mem} {H : Hp} {v : MV} {x : V} {ks vs : List MV} (rm : RelM c.G β M H) (r : RV c.G β H v x) (h : view M v = .dict ks vs) : ∃ (a : Addr) (kvs : List (L2.Key × V)), x = .ref a ∧ Rd H a (.dK kvs) ∧ ks = kvs.map (fun p => kM p.1) ∧ RVs c.G β H vs (kvs.map (·.2)) := by
  cases v with
  | fdc ks' vs' => cases h; obtain ⟨a, kvs, rfl, n, rd, hk, rs⟩ := r; exact ⟨a, kvs, rfl, rd, hk, rs⟩
  | ref i =>
    obtain ⟨a, ha, rfl⟩ := r
    obtain ⟨o, ho, ro⟩ := rm.get ha
    simp only [view, ho] at h
    cases o with
    | dct ep ks' vs' => cases h; obtain ⟨kvs, hy, hk, rs⟩ := ro; exact ⟨a, kvs, rfl, .inl hy, hk, rs⟩
    | lck ks' vs' => cases h; obtain ⟨od, kvs, hy, hk, rs⟩ := ro; exact ⟨a, kvs, rfl, .inr ⟨od, hy⟩, hk, rs⟩
    | _ => cases h
  | _ => cases h
/-- where a list or a tuple stands -/
theorem seq_at {c : Cf} {β : List Addr} {M : Mem} {H : Hp} {v : MV} {x : V} {xs : List MV} (rm : RelM c.G β M H) (r : RV c.G β H v x) (h : view M v = .seq xs) : ∃ (a : Addr) (ys : List V), x = .ref a ∧ (SqL c.G.K H a ys ∨ SqT c.G.K H a ys) ∧ RVs c.G β H xs ys := by
  cases v with
  | tup zs => cases h; obtain ⟨a, ys, rfl, f, rs⟩ := r; exact ⟨a, ys, rfl, .inr f.sq, rs⟩
  | fls zs => cases h; obtain ⟨a, ys, rfl, f, rs⟩ := r; exact ⟨a, ys, rfl, .inl (.inl (.inl f.2)), rs⟩
  | scr zs => cases h; obtain ⟨a, ys, rfl, f, rs⟩ := r; exact ⟨a, ys, rfl, .inl f.sq, rs⟩
  | ref i =>
    obtain ⟨a, ha, rfl⟩ := r
    obtain ⟨o, ho, ro⟩ := rm.get ha
    simp only [view, ho] at h
    cases o with
    | lst zs => cases h; obtain ⟨ys, hy, rs⟩ := ro; exact ⟨a, ys, rfl, .inl (.inl (.inl hy)), rs⟩
    | _ => cases h
  | _ => cases h
theorem text_at {c : Cf} {β : List Addr} {M : Mem} {H : Hp} {v : MV} {x : V} {s : Str} (rm : RelM c.G β M H) (r : RV c.G β H v x) (h : view M v = .text s) : x = .str s ∧ v = .str s := by
  cases v with
  | str t => cases h; exact ⟨r, rfl⟩
  | ref i =>
    obtain ⟨a, ha, rfl⟩ := r
    obtain ⟨o, ho, ro⟩ := rm.get ha
    simp only [view, ho] at h
    cases o <;> cases h
  | _ => cases h

/-- the names of built-in types that are told -/
abbrev tyNs : List String := ["NoneType", "bool", "int", "str", "tuple", "list", "dict"]
theorem tyNm_at {c : Cf} {β : List Addr} {M : Mem} {H : Hp} {v : MV} {x : V} {n : String} (rm : RelM c.G β M H) (r : RV c.G β H v x) (h : tyNm M v = some n) : TyX c.G.K H x (.type n) ∧ n ∈ tyNs := by
  cases v with
  | non => cases h; cases (show x = _ from r); exact ⟨.base .non, by simp [tyNs]⟩
  | bl b => cases h; cases (show x = _ from r); exact ⟨.base (.bl b), by simp [tyNs]⟩
  | int b => cases h; cases (show x = _ from r); exact ⟨.base (.int b), by simp [tyNs]⟩
  | str b => cases h; cases (show x = _ from r); exact ⟨.base (.str b), by simp [tyNs]⟩
  | tup xs =>
    cases h
    obtain ⟨a, ys, rfl, f, rs⟩ := r
    rcases f with f | ⟨o, its, n, ho, hc, _⟩
    · exact ⟨.base (.tup f.2), by simp [tyNs]⟩
    · exact ⟨.kTuple ho hc, by simp [tyNs]⟩
  | fls xs => cases h; obtain ⟨a, ys, rfl, f, rs⟩ := r; exact ⟨.base (.lst f.2), by simp [tyNs]⟩
  | fdc ks vs =>
    cases h
    obtain ⟨a, kvs, rfl, n, rd, hk, rs⟩ := r
    rcases rd with rd | ⟨o, rd⟩
    · exact ⟨.base (.dK rd), by simp [tyNs]⟩
    · exact ⟨.fDict rd, by simp [tyNs]⟩
  | ref i =>
    obtain ⟨a, ha, rfl⟩ := r
    obtain ⟨o, ho, ro⟩ := rm.get ha
    simp only [tyNm, ho] at h
    cases o with
    | lst xs => cases h; obtain ⟨ys, hy, rs⟩ := ro; exact ⟨.base (.lst hy), by simp [tyNs]⟩
    | dct ep ks vs => cases h; obtain ⟨kvs, hy, hk, rs⟩ := ro; exact ⟨.base (.dK hy), by simp [tyNs]⟩
    | lck ks vs => cases h; obtain ⟨od, kvs, hy, hk, rs⟩ := ro; exact ⟨.fDict hy, by simp [tyNs]⟩
    | _ => cases h
  | _ => cases h

/-! ### comparisons -/
def c2 (M : Mem) (op : CmpOp) (v w : MV) : Option MV := (cmpP M op v w).map .bl
theorem flat_rv {G : Wd} {β : List Addr} {H : Hp} {v : MV} {x : V} (h : flatV v = true) (r : RV G β H v x) : flatB x = true := by
  cases v with
  | non => cases (show x = _ from r); rfl
  | bl b => cases (show x = _ from r); rfl
  | int b => cases (show x = _ from r); rfl
  | str b => cases (show x = _ from r); rfl
  | _ => cases h
theorem flat_eq {G : Wd} {β : List Addr} {H : Hp} {v : MV} {x y : V} (h : flatV v = true) (r : RV G β H v x) (r' : RV G β H v y) : x = y := by
  cases v with
  | non => exact (show x = _ from r).trans (show y = _ from r').symm
  | bl b => exact (show x = _ from r).trans (show y = _ from r').symm
  | int b => exact (show x = _ from r).trans (show y = _ from r').symm
  | str b => exact (show x = _ from r).trans (show y = _ from r').symm
  | _ => cases h
/-- whether each value of ks stands in ls -/
def hitB (ls : List (L2.Key × V)) (p : L2.Key × V) : Bool := match valV ls p.1 with
  | some y => eqV p.2 y
  | none => false
theorem valV_mem {k : L2.Key} {y : V} : ∀ {ls : List (L2.Key × V)}, valV ls k = some y → ∃ p ∈ ls, p.2 = y
  | [], h => by cases h
  | q :: ls, h => by
    by_cases c : q.1 = k
    · have : valV (q :: ls) k = some q.2 := by simp [valV, c]
      rw [this] at h
      exact ⟨q, List.mem_cons_self .., Option.some.inj h⟩
    · have : valV (q :: ls) k = valV ls k := by simp [valV, c]
      rw [this] at h
      obtain ⟨p, hp, e⟩ := valV_mem h
      exact ⟨p, List.mem_cons_of_mem _ hp, e⟩
theorem hits_any {A : Around} {s : Shared} {ls : List (L2.Key × V)} {vb : List (L2.Key × Value)} (rb : KV ls vb) (fl : ∀ p ∈ ls, L2.flatV p.2 = true) {ks : List (L2.Key × V)} {va : List (L2.Key × Value)} (ra : KV ks va) :
    (∀ p ∈ ks, L2.flatV p.2 = true) → W.KeqHits A s vb va (ks.all (hitB ls)) := by
  unfold KV at ra
  induction ra with
  | nil => intro _; exact .nil
  | @cons p q ps qs h t ih =>
    intro hp
    obtain ⟨h1, h2⟩ := h
    have ih' := ih fun p' hm => hp p' (List.mem_cons_of_mem _ hm)
    obtain ⟨k, v⟩ := q
    have h1' : p.1 = k := h1
    have rr := rb.val p.1
    rw [List.all_cons]
    unfold hitB
    cases hv : valV ls p.1 with
    | none =>
      rw [hv] at rr
      have : valueAt vb k = none := by
        rw [← h1']
        cases hq : valueAt vb p.1 with
        | none => rfl
        | some u => rw [hq] at rr; exact rr.elim
      simp only [Bool.false_and]
      exact .miss this
    | some y =>
      rw [hv] at rr
      obtain ⟨u, hu, ru⟩ := rr.some_of
      obtain ⟨p', hp', e⟩ := valV_mem hv
      rw [h1'] at hu
      have fy : L2.flatV y = true := by rw [← e]; exact fl p' hp'
      exact .hit hu (eqAt_V h2 ru (hp p (List.mem_cons_self ..)) fy) ih'
theorem op_eqDR {X : Cx} (hu : X.A.units < cLine) : OpR X (compareOp .Eq) (fun x y H Q => ∃ (a b : Addr) (ks ls : List (L2.Key × V)), x = .ref a ∧ y = .ref b ∧ Rd H a (.dK ks) ∧ Rd H b (.dK ls) ∧ (∀ p ∈ ks, L2.flatV p.2 = true) ∧ (∀ p ∈ ls, L2.flatV p.2 = true) ∧ Q (.bl (ks.length == ls.length && ks.all (hitB ls))) H) := by
  intro pins s σ H x y v u Q I rx ry h
  obtain ⟨a, b, ks, ls, rfl, rfl, ea, eb, f1, f2, q⟩ := h
  cases (show v = .ref a from rx); cases (show u = .ref b from ry)
  obtain ⟨_, ya, va, ra, da⟩ := dk_rd I.hok ea
  obtain ⟨_, yb, vb, rb, db⟩ := dk_rd I.hok eb
  have e1 : va.length = ks.length := ra.length.symm
  have e2 : vb.length = ls.length := rb.length.symm
  refine W.keq_eq ya yb da db hu (fun _ => hits_any rb f2 ra f1) (fin_bl I q ?_)
  rw [e1, e2]
theorem op_neDR {X : Cx} (hu : X.A.units < cLine) : OpR X (compareOp .NotEq) (fun x y H Q => ∃ (a b : Addr) (ks ls : List (L2.Key × V)), x = .ref a ∧ y = .ref b ∧ Rd H a (.dK ks) ∧ Rd H b (.dK ls) ∧ (∀ p ∈ ks, L2.flatV p.2 = true) ∧ (∀ p ∈ ls, L2.flatV p.2 = true) ∧ Q (.bl (!(ks.length == ls.length && ks.all (hitB ls)))) H) := by
  intro pins s σ H x y v u Q I rx ry h
  obtain ⟨a, b, ks, ls, rfl, rfl, ea, eb, f1, f2, q⟩ := h
  cases (show v = .ref a from rx); cases (show u = .ref b from ry)
  obtain ⟨_, ya, va, ra, da⟩ := dk_rd I.hok ea
  obtain ⟨_, yb, vb, rb, db⟩ := dk_rd I.hok eb
  have e1 : va.length = ks.length := ra.length.symm
  have e2 : vb.length = ls.length := rb.length.symm
  refine W.keq_ne ya yb da db hu (fun _ => hits_any rb f2 ra f1) (fin_bl I q ?_)
  rw [e1, e2]
theorem plV_flat {G : Wd} {β : List Addr} {H : Hp} : ∀ {kvs : List (L2.Key × V)} {vs : List MV}, RVs G β H vs (kvs.map (·.2)) → vs.all plV = true → ∀ p ∈ kvs, L2.flatV p.2 = true
  | [], _, _, _, p, h => by cases h
  | q :: kvs, [], r, _, p, h => by cases (show _ = _ from r)
  | q :: kvs, v :: vs, ⟨y, t, e, r0, rs⟩, ha, p, h => by
    cases e
    simp only [List.all_cons, Bool.and_eq_true] at ha
    rcases List.mem_cons.mp h with rfl | h
    · cases v with
      | non => rw [show p.2 = _ from r0]; rfl
      | int i => rw [show p.2 = _ from r0]; rfl
      | str i => rw [show p.2 = _ from r0]; rfl
      | _ => cases ha.1
    · exact plV_flat rs ha.2 p h
theorem eqV_pl {G : Wd} {β : List Addr} {H : Hp} {v w : MV} {x y : V} (hv : plV v = true) (hw : plV w = true) (rv : RV G β H v x) (rw_ : RV G β H w y) : eqV x y = decide (w = v) := by
  cases v <;> first | cases hv | skip
  all_goals cases w <;> first | cases hw | skip
  all_goals
    cases (show x = _ from rv)
    cases (show y = _ from rw_)
    simp [eqV]
  all_goals (rw [Bool.eq_iff_iff]; simp; exact eq_comm)
theorem all_at {α : Type} {p : α → Bool} : ∀ {l : List α} {i : Nat} {a : α}, l.all p = true → l[i]? = some a → p a = true
  | l, i, a, h, e => List.all_eq_true.mp h a (List.mem_iff_getElem?.mpr ⟨i, e⟩)
theorem eqD_hits {G : Wd} {β : List Addr} {H : Hp} {ws : List MV} {k2 : List (L2.Key × V)} (r2 : RVs G β H ws (k2.map (·.2))) (hw : ws.all plV = true) : ∀ {k1 : List (L2.Key × V)} {vs : List MV}, RVs G β H vs (k1.map (·.2)) → vs.all plV = true →
    k1.all (hitB k2) = ((k1.map fun p => kM p.1).zip vs).all fun p => decide (dget (k2.map fun p => kM p.1) ws p.1 = some p.2)
  | [], _, _, _ => rfl
  | q :: k1, [], r, _ => by cases (show _ = _ from r)
  | q :: k1, v :: vs, ⟨y, t, e, r0, rs⟩, ha => by
    cases e
    simp only [List.all_cons, Bool.and_eq_true] at ha
    rw [List.all_cons, eqD_hits r2 hw rs ha.2, List.map_cons, List.zip_cons_cons, List.all_cons]
    congr 1
    have d := dget_rel q.1 r2
    unfold hitB dget
    revert d
    cases hf : dfind (k2.map fun p => kM p.1) (kM q.1) with
    | none =>
      rintro ⟨d, _⟩
      rw [d]; simp
    | some i =>
      rintro ⟨w, z, d1, d2, d3, _⟩
      rw [d2]
      simp only [d1]
      rw [eqV_pl ha.1 (all_at hw d1) r0 d3]
      simp
theorem eqD_at {c : Cf} {β : List Addr} {H : Hp} {vs ws : List MV} {k1 k2 : List (L2.Key × V)} {b : Bool} (r1 : RVs c.G β H vs (k1.map (·.2))) (r2 : RVs c.G β H ws (k2.map (·.2))) (h : eqD (k1.map fun p => kM p.1) vs (k2.map fun p => kM p.1) ws = some b) : (∀ p ∈ k1, L2.flatV p.2 = true) ∧ (∀ p ∈ k2, L2.flatV p.2 = true) ∧ b = (k1.length == k2.length && k1.all (hitB k2)) := by
  unfold eqD at h
  split at h
  · rename_i hp
    simp only [Bool.and_eq_true] at hp
    cases h
    refine ⟨plV_flat r1 hp.1, plV_flat r2 hp.2, ?_⟩
    rw [eqD_hits r2 hp.2 r1 hp.1]
    simp
    congr 1
  · cases h
/-- x in a tuple of data of any depth -/
theorem op_inDT {X : Cx} (hu : X.A.units + 65 < cLine) : OpR X (compareOp .In) (fun x y H Q => ∃ d ds, Dp X.K H x d ∧ Dp X.K H y (.tuple ds) ∧ SeqAt.shaped d = true ∧ SeqAt.shaped (.tuple ds) = true ∧ Q (.bl (ds.any fun z => PyData.eqv z d)) H) := by
  intro pins s σ H x y v u Q I rx ry h
  obtain ⟨d, ds, hd, he, sd, se, q⟩ := h
  obtain ⟨as, r1⟩ := Dp.reads I d x v hd rx
  obtain ⟨bs, r2⟩ := Dp.reads I (.tuple ds) y u he ry
  exact SeqAt.in_tuple_reads r2 r1 (SeqAt.canLay_of_shaped se) (SeqAt.canLay_of_shaped sd) (PyProof.Rows.room_in_shaped sd hu) ⟨.bl _, H, I, rfl, q⟩
theorem op_notInDT {X : Cx} (hu : X.A.units + 65 < cLine) : OpR X (compareOp .NotIn) (fun x y H Q => ∃ d ds, Dp X.K H x d ∧ Dp X.K H y (.tuple ds) ∧ SeqAt.shaped d = true ∧ SeqAt.shaped (.tuple ds) = true ∧ Q (.bl (!ds.any fun z => PyData.eqv z d)) H) := by
  intro pins s σ H x y v u Q I rx ry h
  obtain ⟨d, ds, hd, he, sd, se, q⟩ := h
  obtain ⟨as, r1⟩ := Dp.reads I d x v hd rx
  obtain ⟨bs, r2⟩ := Dp.reads I (.tuple ds) y u he ry
  exact SeqAt.notIn_tuple_reads r2 r1 (SeqAt.canLay_of_shaped se) (SeqAt.canLay_of_shaped sd) (PyProof.Rows.room_in_shaped sd hu) ⟨.bl _, H, I, rfl, q⟩
theorem op_cmp {c : Cf} {X : Cx} (hK : X.K = c.G.K) (hu : X.A.units + 70 < cLine) (op : CmpOp) : OpR X (compareOp op) (r2 c fun M v w => c2 M op v w) := by
  refine OpR.dyn fun x y H Q => ?_
  rintro ⟨β, M, v, u, z, rm, rv, ru, hz, gv⟩
  obtain ⟨b, hb, rfl⟩ := Option.map_eq_some_iff.mp hz
  have done : Q (.bl b) H := gv.now rm rfl
  cases op with
  | Eq =>
    change eqM M v u = some b at hb
    unfold eqM at hb
    split at hb
    · rename_i d e hd he
      split at hb
      · rename_i hs
        cases hb
        simp only [Bool.or_eq_true, Bool.and_eq_true] at hs
        rcases hs with hs | hs
        · exact ⟨_, op_eqD (by omega), d, e, hK ▸ dp1 rm rv hd, hK ▸ dp1 rm ru he, hs.1, hs.2, done⟩
        · obtain ⟨s1, s2, rfl, rfl⟩ : ∃ s1 s2, d = .str s1 ∧ e = .str s2 := by
            cases d <;> cases e <;> first | exact ⟨_, _, rfl, rfl⟩ | cases hs
          have q1 := dp1 rm rv hd
          have q2 := dp1 rm ru he
          cases q1
          cases q2
          refine ⟨_, op_eq, rfl, ?_⟩
          have e3 : decide (V.str s1 = V.str s2) = PyData.eqv (.str s1) (.str s2) := by
            simp only [PyData.eqv, V.str.injEq]
            rw [Bool.eq_iff_iff]; simp
          rw [e3]; exact done
      · cases hb
    · split at hb
      · rename_i ks vs ls ws hv hw
        obtain ⟨a, k1, rfl, d1, rfl, r1⟩ := dict_at rm rv hv
        obtain ⟨a2, k2, rfl, d2, rfl, r2⟩ := dict_at rm ru hw
        obtain ⟨h1, h2, rfl⟩ := eqD_at r1 r2 hb
        exact ⟨_, op_eqDR (by omega), a, a2, k1, k2, rfl, rfl, d1, d2, h1, h2, done⟩
      · cases hb
  | NotEq =>
    obtain ⟨b', hb', rfl⟩ := Option.map_eq_some_iff.mp hb
    unfold eqM at hb'
    split at hb'
    · rename_i d e hd he
      split at hb'
      · rename_i hs
        cases hb'
        simp only [Bool.or_eq_true, Bool.and_eq_true] at hs
        rcases hs with hs | hs
        · exact ⟨_, op_neD (by omega), d, e, hK ▸ dp1 rm rv hd, hK ▸ dp1 rm ru he, hs.1, hs.2, done⟩
        · obtain ⟨s1, s2, rfl, rfl⟩ : ∃ s1 s2, d = .str s1 ∧ e = .str s2 := by
            cases d <;> cases e <;> first | exact ⟨_, _, rfl, rfl⟩ | cases hs
          have q1 := dp1 rm rv hd
          have q2 := dp1 rm ru he
          cases q1
          cases q2
          refine ⟨_, op_ne, rfl, ?_⟩
          have e3 : decide (V.str s1 = V.str s2) = PyData.eqv (.str s1) (.str s2) := by
            simp only [PyData.eqv, V.str.injEq]
            rw [Bool.eq_iff_iff]; simp
          rw [e3]; exact done
      · cases hb'
    · split at hb'
      · rename_i ks vs ls ws hv hw
        obtain ⟨a, k1, rfl, d1, rfl, r1⟩ := dict_at rm rv hv
        obtain ⟨a2, k2, rfl, d2, rfl, r2⟩ := dict_at rm ru hw
        obtain ⟨h1, h2, rfl⟩ := eqD_at r1 r2 hb'
        exact ⟨_, op_neDR (by omega), a, a2, k1, k2, rfl, rfl, d1, d2, h1, h2, done⟩
      · cases hb'
  | Is =>
    dsimp only [cmpP] at hb
    split at hb
    · cases hb
      cases (show y = _ from ru)
      exact ⟨_, op_isN, rfl, by rw [rv.isNon]; exact done⟩
    · split at hb
      · cases hb
        cases (show x = _ from rv); cases (show y = _ from ru)
        exact ⟨_, op_is_bl, _, _, rfl, rfl, done⟩
      · cases hb
    · cases hb
  | IsNot =>
    dsimp only [cmpP] at hb
    split at hb
    · cases hb
      cases (show y = _ from ru)
      exact ⟨_, op_notN, rfl, by rw [rv.isNon]; exact done⟩
    · split at hb
      · cases hb
        cases (show x = _ from rv); cases (show y = _ from ru)
        exact ⟨_, op_isnot_bl, _, _, rfl, rfl, done⟩
      · cases hb
    · cases hb
  | In =>
    change inM M v u = some b at hb
    unfold inM at hb
    split at hb
    · rename_i ks vs hv
      obtain ⟨a, kvs, rfl, rd, rfl, rs⟩ := dict_at rm ru hv
      split at hb
      · rename_i hk
        obtain ⟨k, rfl⟩ := isK_k hk
        cases hb
        cases rv.kV
        refine ⟨_, op_dIn (by omega), a, valV kvs k, rfl, .inl ⟨kvs, k, rd, rfl, rfl⟩, ?_⟩
        rw [← dfind_isSome rs]; exact done
      · cases hb
    · unfold inSeq at hb
      split at hb
      · rename_i d ds hd he
        split at hb
        · rename_i hs
          cases hb
          simp only [Bool.and_eq_true] at hs
          exact ⟨_, op_inD (by omega), d, ds, hK ▸ dp1 rm rv hd, hK ▸ dp1 rm ru he, hs.1, hs.2, done⟩
        · cases hb
      · rename_i d ds hd he
        split at hb
        · rename_i hs
          cases hb
          simp only [Bool.and_eq_true] at hs
          exact ⟨_, op_inDT (by omega), d, ds, hK ▸ dp1 rm rv hd, hK ▸ dp1 rm ru he, hs.1, hs.2, done⟩
        · cases hb
      · cases hb
    · rename_i s hv
      obtain ⟨rfl, rfl⟩ := text_at rm ru hv
      split at hb
      · cases hb
        cases (show x = _ from rv)
        exact ⟨_, op_in_str, _, _, rfl, rfl, done⟩
      · cases hb
    · cases hb
  | NotIn =>
    obtain ⟨b', hb', rfl⟩ := Option.map_eq_some_iff.mp hb
    unfold inM at hb'
    split at hb'
    · rename_i ks vs hv
      obtain ⟨a, kvs, rfl, rd, rfl, rs⟩ := dict_at rm ru hv
      split at hb'
      · rename_i hk
        obtain ⟨k, rfl⟩ := isK_k hk
        cases hb'
        cases rv.kV
        refine ⟨_, op_dNotIn (by omega), a, valV kvs k, rfl, .inl ⟨kvs, k, rd, rfl, rfl⟩, ?_⟩
        rw [← dfind_isSome rs]; exact done
      · cases hb'
    · unfold inSeq at hb'
      split at hb'
      · rename_i d ds hd he
        split at hb'
        · rename_i hs
          cases hb'
          simp only [Bool.and_eq_true] at hs
          exact ⟨_, op_notInD (by omega), d, ds, hK ▸ dp1 rm rv hd, hK ▸ dp1 rm ru he, hs.1, hs.2, done⟩
        · cases hb'
      · rename_i d ds hd he
        split at hb'
        · rename_i hs
          cases hb'
          simp only [Bool.and_eq_true] at hs
          exact ⟨_, op_notInDT (by omega), d, ds, hK ▸ dp1 rm rv hd, hK ▸ dp1 rm ru he, hs.1, hs.2, done⟩
        · cases hb'
      · cases hb'
    · rename_i s hv
      obtain ⟨rfl, rfl⟩ := text_at rm ru hv
      split at hb'
      · cases hb'
        cases (show x = _ from rv)
        exact ⟨_, op_notIn_str, _, _, rfl, rfl, done⟩
      · cases hb'
    · cases hb'
  | Lt =>
    dsimp only [cmpP] at hb
    split at hb
    · cases hb; cases (show x = _ from rv); cases (show y = _ from ru)
      exact ⟨_, op_lt, _, _, rfl, rfl, done⟩
    · unfold cmpM at hb
      split at hb
      · cases hb; cases (show x = _ from rv); cases (show y = _ from ru)
        exact ⟨_, op_lt_str, _, _, rfl, rfl, done⟩
      · cases hb
  | LtE =>
    dsimp only [cmpP] at hb
    split at hb
    · cases hb; cases (show x = _ from rv); cases (show y = _ from ru)
      exact ⟨_, op_le, _, _, rfl, rfl, done⟩
    · unfold cmpM at hb
      split at hb
      · cases hb; cases (show x = _ from rv); cases (show y = _ from ru)
        exact ⟨_, op_le_str, _, _, rfl, rfl, done⟩
      · cases hb
  | Gt =>
    dsimp only [cmpP] at hb
    split at hb
    · cases hb; cases (show x = _ from rv); cases (show y = _ from ru)
      exact ⟨_, op_gt, _, _, rfl, rfl, done⟩
    · unfold cmpM at hb
      split at hb
      · cases hb; cases (show x = _ from rv); cases (show y = _ from ru)
        exact ⟨_, op_gt_str, _, _, rfl, rfl, done⟩
      · cases hb
  | GtE =>
    dsimp only [cmpP] at hb
    split at hb
    · cases hb; cases (show x = _ from rv); cases (show y = _ from ru)
      exact ⟨_, op_ge, _, _, rfl, rfl, done⟩
    · unfold cmpM at hb
      split at hb
      · cases hb; cases (show x = _ from rv); cases (show y = _ from ru)
        exact ⟨_, op_ge_str, _, _, rfl, rfl, done⟩
      · cases hb
end Mi
/-! Mini, part Ha: own instances: != by their own __eq__, len by their own __len__, == with a built-in value. -/
set_option autoImplicit false
set_option linter.all false
set_option maxRecDepth 100000
set_option maxHeartbeats 2000000
namespace Mi
open PySem L2 PySem.W PySem.Calls PyProof.Rows

section
variable {prog : Program} {w : World} {A : Around} {E : Value → Shared → Prop} {s : Shared} {K : Frag} {x C L f : Addr} {h₀ : Heap} {m : Str → Option Value} {ox : Obj} {od : Option Obj} {b tb : Value}
/-- x != b, the class having an own __eq__ and object's __ne__ -/
theorem ne_K {Q : Value → Shared → Prop} (hu : A.units + 1 < cLine) (F : Fr h₀ L s.heap m) (X₀ : K.In h₀) (I : InstAt s.heap x ox C od) (hb : Looks (model prog w) s.heap (typeOf b) tb) (hn : notFirst K C tb = true)
    (hne : findIn K (.ref C) "__ne__" = some (some (.builtin "object.__ne__"))) (hob : mroIn K C (.type "object") = some true)
    (hs : findIn K (.ref C) "__eq__" = some (some (.ref f))) (hf : isFn K (.ref f) = true)
    (h : wpAny (model prog w) A.in1 (call (.ref f) [.ref x, b]) (fun v s' => ∃ r, v = .bool r ∧ Q (.bool (!r)) s') E s) : wpAny (model prog w) A (compareOp .NotEq (.ref x) b) Q E s := by
  have X := X₀.keeps F.keep
  have FB := PySem.F.cmp_object
  have sub : Looks (model prog w) s.heap (isInstance (.ref x) (.type "object")) true := I.type.andThen (looks_mroIn X hob)
  have body : wpAny (model prog w) A.in1 (Builtin.«object.__ne__» ⟨[.ref x, b], []⟩) (fun fin s' => match fin with
      | .done fl => ∃ r, fl = .ret (.bool r) ∧ Q (.bool r) s'
      | .again _ => False) E s := by
    unfold Builtin.«object.__ne__»
    repeat (first
      | with_reducible refine wpAny_cRoomFor (show A.in1.units < cLine from hu) ?_
      | (refine wpAny_bind (m := callSpecialIfBound? (.ref x) (Str.ofString "__eq__") [b]) (ifBound_K X I hs hf (wpAny_mono h (fun r s' hr => by
            obtain ⟨r', rfl, hq⟩ := hr
            repeat (first | exact ⟨_, rfl, hq⟩ | exact wpAny_pure ⟨_, rfl, hq⟩ | exact wpAny_truthy_bool ⟨_, rfl, hq⟩ | (refine wpAny_bind (m := truthy (.bool _)) (wpAny_truthy_bool ?_)) | wp_step)) fun _ _ e => e)))
      | wp_step)
  have callNe : wpAny (model prog w) A (call (.builtin "object.__ne__") [.ref x, b]) (fun v s' => ∃ r, v = .bool r ∧ Q (.bool r) s') E s := by
    refine wpAny_call (codeAny_call_builtin FB.ne.plain PySem.F.cmpEntry_ne (@PySem.W.check_slot (model prog w) _ _ s "object.__ne__" "object" "__ne__" (.ref x) [b] [] _ PySem.F.cmpKind_ne PySem.F.cmpSplit_ne sub (PySem.F.cmpArgs_ne _ _) ?_))
    refine wpAny_mono body (fun fin s' hr => ?_) fun _ _ e => e
    cases fin with
    | done fl =>
      obtain ⟨r, rfl, hq⟩ := hr
      exact ⟨r, rfl, hq⟩
    | again c => exact hr.elim
  have one : wpAny (model prog w) A (tryCompare (.ref x) (cmpInfo .NotEq).2.1 b) (fun r s' => ∃ v, r = some (.bool v) ∧ Q (.bool v) s') E s := by
    unfold tryCompare
    have z : wpAny (model prog w) A (callSpecialIfBound? (.ref x) (cmpInfo .NotEq).2.1 [b]) (fun r s' => ∃ v, r = some (.bool v) ∧ Q (.bool v) s') E s := by
      simp only [callSpecialIfBound?, bindSpecialIfBound?]
      refine wpAny_holding (wpAny_bind (wpAny_bind (wpAny_bind (I.type.here ((looks_findIn X hne).here ?_)))))
      refine wpAny_bind (wpAny_askSetting (wpAny_ite ?_))
      have fin : wpAny (model prog w) A (call (.builtin "object.__ne__") ([.ref x] ++ [b]) >>= fun v => pure (some v)) (fun r s' => ∃ v, r = some (.bool v) ∧ Q (.bool v) s') E s :=
        wpAny_bind (wpAny_mono callNe (fun v s' h' => by
          obtain ⟨r, rfl, hq⟩ := h'
          exact wpAny_pure ⟨r, rfl, hq⟩) fun _ _ h' => h')
      simp only [FB.ne.bind]
      split
      · exact wpAny_bind (wpAny_pure (wpAny_pure (by exact fin)))
      · exact wpAny_tryCatch (wpAny_bind (wpAny_pure (wpAny_pure (by exact fin))))
    refine wpAny_bind (wpAny_mono z (fun r s' hr => ?_) fun _ _ e => e)
    obtain ⟨v, rfl, hq⟩ := hr
    exact wpAny_pure ⟨v, rfl, hq⟩
  show wpAny (model prog w) A (richCompare .NotEq (.ref x) b) Q E s
  unfold richCompare
  simp only [oneThing_ref]
  refine wpAny_holding (wpAny_bind (wpAny_cRoomFor (by omega) ?_))
  refine wpAny_bind (I.type.here (wpAny_bind (hb.here ?_)))
  split
  · rename_i q
    have e : subIn K tb (.ref C) = some false := by
      rcases Bool.or_eq_true_iff.mp hn with e | e
      · rw [beq_iff_eq.mp e] at q; simp at q
      · exact beq_iff_eq.mp e
    refine wpAny_bind ((looks_subIn X e).here ?_)
    simp only [Bool.false_eq_true, if_false]
    refine wpAny_bind (wpAny_mono one (fun r s' z => ?_) fun _ _ e => e)
    obtain ⟨v, rfl, hq⟩ := z
    exact wpAny_pure hq
  · refine wpAny_bind (wpAny_pure ?_)
    simp only [Bool.false_eq_true, if_false]
    refine wpAny_bind (wpAny_mono one (fun r s' z => ?_) fun _ _ e => e)
    obtain ⟨v, rfl, hq⟩ := z
    exact wpAny_pure hq
end
section
variable {X : Cx} {CX' : CXT} {k : Nat} {f : Addr} {sp : Sp} {pins : List (Addr × Obj)} {σ : L2.St} {H : Hp} {s : Shared} {Q : VK} {us : List Value} {vs : List V}
/-- one unit deeper -/
theorem run_fnR1 {E : XK} (F : FnR X.prog X.w X.K X.mg X.base CX' k f sp) (hr : Room (k + 1) X.A) (hq : Quiet X.A) (hx : Passes CX' X E) (I : L2.Inv X pins σ H s) (r : Vals vs us) (h : sp vs H Q E) :
    wpAny (model X.prog X.w) X.A.in1 (call (.ref f) us) (EP X pins σ Q) X.xe s := by
  refine wpAny_call (codeAny_mono (F X.A.in1 X.stack s H us vs Q E hr.in1 hq I.env0.in1 r h) fun r s' z => ?_)
  have z' := after_call (fun pins H s e s' I => hx pins σ H s e s' I) I z
  cases r with
  | error e => exact z'
  | ok fl => cases fl <;> first | exact z' | exact False.elim z'
end
end Mi
/-! Mini, part H: where one stands; own methods behind operators; calls. -/
set_option autoImplicit false
set_option linter.all false
namespace Mi
open PySem L2

/-- the level of a def that may go n calls deep -/
def lev (n : Nat) : Nat := 4 * n + 1
/-- the promise of a def -/
def spM (c : Cf) (f : Str) : Sp := fun vs H Q E => ∃ β M xs, RelM c.G β M H ∧ RVs c.G β H xs vs ∧ OkR c (fun cl d H' => E cl d H') β H (c.cal f xs M) (KQ c Q)
/-- a way to call: the function, so many values, these keywords; how they come to the parameters -/
structure KwQ where
  f : Str
  n : Nat
  ks : List Str
  how : List MB
  deriving DecidableEq
/-- what a checker is told of the top; kwm: calls of methods, of classes (self is not told in them) -/
structure Tb where
  plain : List Str
  frees : List Str
  globs : List (Str × MV)
  kws : List KwQ := []
  kwm : List KwQ := []
  /-- classes that except clauses, isinstance name -/
  hnd : List Str := []
  /-- exceptions made with keywords -/
  kwx : List KwQ := []
/-- a value without parts -/
def Sca : MV → V → Prop
  | .non, x => x = .non
  | .bl b, x => x = .bl b
  | .int i, x => x = .int i
  | .str s, x => x = .str s
  | _, _ => False
def scaV : MV → Option V
  | .non => some .non
  | .bl b => some (.bl b)
  | .int i => some (.int i)
  | .str s => some (.str s)
  | _ => none
theorem scaV_rv {G : Wd} {β : List Addr} {H : Hp} {v : MV} {x : V} (h : scaV v = some x) : RV G β H v x := by
  cases v <;> cases h <;> exact rfl
def bindV (vs : List V) : List MB → Option (List V)
  | [] => some []
  | .arg i :: r => match vs[i]?, bindV vs r with
    | some v, some ws => some (v :: ws)
    | _, _ => none
  | .dfl v :: r => match scaV v, bindV vs r with
    | some v, some ws => some (v :: ws)
    | _, _ => none
theorem bind_rel {G : Wd} {β : List Addr} {H : Hp} {vs : List MV} {xs : List V} (r : RVs G β H vs xs) : ∀ {how : List MB} {ws : List MV} {zs : List V}, bindArgs vs how = some ws → bindV xs how = some zs → RVs G β H ws zs
  | [], ws, zs, h, k => by cases h; cases k; exact rfl
  | .arg i :: t, ws, zs, h, k => by
    simp only [bindArgs] at h
    simp only [bindV] at k
    split at h
    · rename_i v ws' h1 h2
      cases h
      split at k
      · rename_i x zs' k1 k2
        cases k
        obtain ⟨y, hy, ry⟩ := r.at h1
        rw [k1] at hy; cases hy
        exact ⟨_, _, rfl, ry, bind_rel r h2 k2⟩
      · cases k
    · cases h
  | .dfl v :: t, ws, zs, h, k => by
    obtain ⟨ws', h2, rfl⟩ := Option.map_eq_some_iff.mp h
    simp only [bindV] at k
    split at k
    · rename_i x zs' k1 k2
      cases k
      exact ⟨_, _, rfl, scaV_rv k1, bind_rel r h2 k2⟩
    · cases k
theorem Sca.rv {G : Wd} {β : List Addr} {H : Hp} {v : MV} {x : V} (h : Sca v x) : RV G β H v x := by
  cases v <;> first | exact h | exact h.elim
def Wd.with (G : Wd) (φ : List Addr) : Wd := { G with hid := φ }
def Cf.with (c : Cf) (φ : List Addr) : Cf := { c with G := c.G.with φ }
/-- a class of the program's own -/
structure ClsI (G : Wd) (d : CDef) (C : Addr) : Prop where
  at_ : G.cls d.nm = some C
  cls : Cls G.K C
  mg : G.mg d.nm = some (.ref C)
  first : W.notFirst G.K C (.ref C) = true
  make_ : ∀ f, d.meths.lookup ("__init__" : Str) = some f → ∃ fa fd, G.fnA f = some (fa, fd) ∧ Mk G.K C fa
  meth : ∀ m f, d.meths.lookup m = some f → ∃ fa fd, G.fnA f = some (fa, fd) ∧ Meth G.K C m fa
  prop : ∀ m f, d.props.lookup m = some f → ∃ q fa fd, G.fnA f = some (fa, fd) ∧ PropOf G.K C m q fa
  fld : ∀ f ∈ d.flds, NoAttr G.K C f
  ty : W.findIn G.K (.ref C) "__class__" = some (some (.builtin "object.__class__")) ∧ W.specialIn G.K (.builtin "object.__class__") "__get__" = some (some (.builtin "getset_descriptor.__get__")) ∧ W.takesIn G.K (.builtin "object.__class__") = some true ∧ W.mroIn G.K C (.type "object") = some true
  ne_ : W.findIn G.K (.ref C) "__ne__" = some (some (.builtin "object.__ne__"))
  oth : ∀ n ∈ tyNs, W.notFirst G.K C (.type n) = true ∧ W.kitOne G.K (.type n) (.ref C) = some false
/-- an exception class of the program's own -/
structure ExcI (G : Wd) (d : XDef) (C : Addr) : Prop where
  at_ : G.cls d.nm = some C
  mg : G.mg d.nm = some (.ref C)
  oex : OexC G.K C
  xf : XfC G.K C
  fld : ∀ f ∈ d.ns, W.findIn G.K (.ref C) f = some none
  len : d.ns.length ≤ 900
  isx : ExcC G.K C
  isv : W.kitOne G.K (.ref C) (.type "ValueError") = some true
structure Stat (G : Wd) (P : MProg) (T : Tb) : Prop where
  sys : (G.K.lookup sysModules).isSome = true
  plain : ∀ f ∈ T.plain, ∃ fa fd, G.fnA f = some (fa, fd) ∧ G.mg f = some (.ref fa)
  fn : ∀ f fa fd, G.fnA f = some (fa, fd) → ∃ d, fnOf? P f = some d
  keep : ∀ f fa fd, G.fnA f = some (fa, fd) → W.keepIn G.K (.ref fa) = true
  bind : ∀ f d fa fd, fnOf? P f = some d → G.fnA f = some (fa, fd) → Binds G.K fd d.ps []
  free : ∀ x ∈ T.frees, G.mg x = none
  glob : ∀ p ∈ T.globs, ∃ v u, G.mg p.1 = some u ∧ RelV v u ∧ Sca p.2 v
  cls : ∀ n d, clsOf P n = some d → ∃ C, ClsI G d C
  kws : ∀ q ∈ T.kws, ∀ d fa fd, fnOf? P q.f = some d → G.fnA q.f = some (fa, fd) → ∃ (g : List Value → List Value → List Value) (gV : List V → List V → List V), KBn G.K fd d.ps q.n q.ks g gV ∧ ∀ vs zs, vs.length = q.n → zs.length = q.ks.length → bindV (vs ++ zs) q.how = some (gV vs zs)
  kwm : ∀ q ∈ T.kwm, ∀ d fa fd, fnOf? P q.f = some d → G.fnA q.f = some (fa, fd) → ∃ (g : List Value → List Value → List Value) (gV : List V → List V → List V), KBn G.K fd d.ps (q.n + 1) q.ks g gV ∧ ∀ x vs zs, vs.length = q.n → zs.length = q.ks.length → ∃ ws, bindV (vs ++ zs) q.how = some ws ∧ gV (x :: vs) zs = x :: ws
  exc : ∀ n d, excOf P n = some d → ∃ C, ExcI G d C
  exm : ∀ x ∈ T.hnd, ∃ D, G.mg x = some (.ref D) ∧ ∀ n d C, excOf P n = some d → G.cls n = some C → W.exmOne G.K (.ref C) (.ref D) = some (catches P x n) ∧ W.kitOne G.K (.ref C) (.ref D) = some (catches P x n)
/-- the defs keep their promises -/
def FnsOk (c : Cf) (prog : Program) (w : World) (base : Heap) : Prop := ∀ f d fa fd, fnOf? c.P f = some d → c.G.fnA f = some (fa, fd) → FnOk prog w c.G.K c.G.mg base (CX prog w) (lev c.n) fa fd d.ps (spM c f)
def XInOk (c : Cf) (T : Tb) (prog : Program) (w : World) (base : Heap) : Prop := ∀ n d C, excOf c.P n = some d → c.G.cls n = some C → ∃ (fI : Addr) (fd : FuncData) (ps : List Str), W.findIn c.G.K (.ref C) "__init__" = some (some (.ref fI)) ∧ W.typeIn c.G.K (.ref fI) = some (.type "function") ∧ L2.FnOk prog w c.G.K c.G.mg base (CX prog w) 1 fI fd ps (spX C d.ns) ∧ Binds c.G.K fd ps [] ∧ ∀ q ∈ T.kwx, q.f = n → ∃ (g : List Value → List Value → List Value) (gV : List V → List V → List V), KBn c.G.K fd ps (q.n + 1) q.ks g gV ∧ ∀ x vs zs, vs.length = q.n → zs.length = q.ks.length → ∃ ws, bindV (vs ++ zs) q.how = some ws ∧ gV (x :: vs) zs = x :: ws
/-- the part of a context that also an except suite has -/
structure Ctx0 (c : Cf) (T : Tb) (N : List Str) (sc : Scope) (X : Cx) : Prop where
  K : X.K = c.G.K
  mg : X.mg = c.G.mg
  names : X.N = N
  scope : X.env.scope = sc
  nd : N.Nodup
  quiet : Quiet X.A
  units : X.A.units + 70 < cLine
  stat : Stat c.G c.P T
structure Ctx (c : Cf) (T : Tb) (N : List Str) (sc : Scope) (wx : WX) (X : Cx) : Prop where
  K : X.K = c.G.K
  mg : X.mg = c.G.mg
  names : X.N = N
  scope : X.env.scope = sc
  nd : N.Nodup
  calm : X.calm = true
  room : Room (lev c.n + 3) X.A
  quiet : Quiet X.A
  stat : Stat c.G c.P T
  fns : ∀ φ, FnsOk (c.with φ) X.prog X.w X.base
  pa : ∀ σ, PassesAt (CX X.prog X.w) X σ (fun cl d H => wx cl d σ H)
  po : PassesOwn (model X.prog X.w) X.A X.env X.xe
  xin : XInOk c T X.prog X.w X.base
/-- the context of a def's own statements -/
structure FnCx (wx : WX) (X : Cx) : Prop where
  fn : ∀ x, X.fn x = true
  tk : Takes X wx
  stk : X.stack = X.env :: X.outer
  frm : X.env.frame = some X.env.locals
  ex : X.ex = []
theorem Ctx.units {c : Cf} {T : Tb} {N : List Str} {sc : Scope} {wx : WX} {X : Cx} (h : Ctx c T N sc wx X) : X.A.units + 70 < cLine := by have := h.room.un; omega
theorem Ctx.c0 {c : Cf} {T : Tb} {N : List Str} {sc : Scope} {wx : WX} {X : Cx} (h : Ctx c T N sc wx X) : Ctx0 c T N sc X := ⟨h.K, h.mg, h.names, h.scope, h.nd, h.quiet, h.units, h.stat⟩
/-! ### own instances -/
theorem ins_at {X : Cx} {pins : List (Addr × Obj)} {σ : St} {H : Hp} {s : Shared} {a C dx : Addr} {fs : List (Str × V)} (I : L2.Inv X pins σ H s) (h : H a = some (.ins C dx fs)) : ∃ od, W.InstAt s.heap a (W.instObj C dx) C (some od) := by
  obtain ⟨_, _, _, hg, mA, hm, _⟩ := (show ObjOk X.prog X.w H s.heap a (.ins C dx fs) from I.hok a _ h)
  obtain ⟨od, es, ep, ho, _⟩ := hm
  exact ⟨od, hg, rfl, rfl, ho⟩
theorem fields_at {c : Cf} {β : List Addr} {M : Mem} {H : Hp} {v : MV} {x : V} {cn : Str} {ns : List Str} {vs : List MV} (rm : RelM c.G β M H) (r : RV c.G β H v x) (h : fields M v = some (cn, ns, vs)) : ∃ (a C dx : Addr) (ys : List V), x = .ref a ∧ c.G.cls cn = some C ∧ H a = some (.ins C dx (ns.zip ys)) ∧ ns.length = vs.length ∧ RVs c.G β H vs ys := by
  cases v with
  | obj c' ns' vs' => cases h; obtain ⟨a, C, dx, ys, rfl, n, hc, hi, hl, rs⟩ := r; exact ⟨a, C, dx, ys, rfl, hc, hi, hl, rs⟩
  | ref i =>
    obtain ⟨a, ha, rfl⟩ := r
    obtain ⟨o, ho, ro⟩ := rm.get ha
    simp only [fields, ho] at h
    cases o with
    | ins c' ns' vs' => cases h; obtain ⟨C, dx, ys, hc, hi, hl, rs⟩ := ro; exact ⟨a, C, dx, ys, rfl, hc, hi, hl, rs⟩
    | _ => cases h
  | _ => cases h
theorem passF {P : Program} {w : World} {X : Cx} : Passes (CX P w) X (fun _ _ _ => False) := by
  rintro pins σ H s e s' I ⟨a, B, H', cl, d, _, _, _, _, _, _, _, h⟩
  exact h.elim
theorem eqName : (cmpInfo .Eq).2.1 = ("__eq__" : Str) := by decide +kernel
theorem op_ownEq {X : Cx} {k : Nat} {C g : Addr} {sp : Sp} (fi : W.findIn X.K (.ref C) (cmpInfo .Eq).2.1 = some (some (.ref g))) (hf : W.isFn X.K (.ref g) = true) (hn : W.notFirst X.K C (.ref C) = true) (F : FnR X.prog X.w X.K X.mg X.base (CX X.prog X.w) k g sp) (hr : Room k X.A) (hq : Quiet X.A) :
    OpR X (compareOp .Eq) (fun x y H Q => ∃ (a dx : Addr) (fs : List (Str × V)), x = .ref a ∧ H a = some (.ins C dx fs) ∧ ((∃ (b dy : Addr) (gs : List (Str × V)), y = .ref b ∧ H b = some (.ins C dy gs)) ∨ ∃ n, TyX X.K H y (.type n) ∧ W.notFirst X.K C (.type n) = true) ∧ sp [x, y] H Q (fun _ _ _ => False)) := by
  intro pins s σ H x y v u Q I rx ry h
  obtain ⟨a, dx, fs, rfl, ha, hy, q⟩ := h
  cases (show v = .ref a from rx)
  obtain ⟨od, J⟩ := ins_at I ha
  obtain ⟨m, hF⟩ := I.fr
  have z := wpAny_mono (run_fnR (vs := [V.ref a, y]) (us := [Value.ref a, u]) F hr hq passF I (.cons rfl (.cons ry .nil)) q) (fun w s' z => by
    obtain ⟨z', H', I', rz, qz⟩ := z
    exact SlX.cmpback (P := EP X pins σ Q) rz ⟨z', H', I', rz, qz⟩) fun _ _ z => z
  rcases hy with ⟨b, dy, gs, rfl, hb⟩ | ⟨n, ty, hn2⟩
  · cases (show u = .ref b from ry)
    obtain ⟨od', J'⟩ := ins_at I hb
    exact W.cmp_K (op := .Eq) (Room.units0 hr) hF I.ok.mod.kin J (W.InstAt.type J') hn fi hf z
  · obtain ⟨P, Z, p, _⟩ := kit_of I ry ty
    exact W.cmp_K (op := .Eq) (Room.units0 hr) hF I.ok.mod.kin J (Z.ty _ _ I.kIn p) hn2 fi hf z
theorem op_ownNe {X : Cx} {k : Nat} {C g : Addr} {sp : Sp} (hne : W.findIn X.K (.ref C) "__ne__" = some (some (.builtin "object.__ne__"))) (hob : W.mroIn X.K C (.type "object") = some true) (fi : W.findIn X.K (.ref C) "__eq__" = some (some (.ref g))) (hf : W.isFn X.K (.ref g) = true) (hn : W.notFirst X.K C (.ref C) = true) (F : FnR X.prog X.w X.K X.mg X.base (CX X.prog X.w) k g sp) (hr : Room (k + 1) X.A) (hq : Quiet X.A) :
    OpR X (compareOp .NotEq) (fun x y H Q => ∃ (a dx : Addr) (fs : List (Str × V)) (b dy : Addr) (gs : List (Str × V)), x = .ref a ∧ y = .ref b ∧ H a = some (.ins C dx fs) ∧ H b = some (.ins C dy gs) ∧ sp [x, y] H (fun z H' => ∃ b, z = .bl b ∧ Q (.bl (!b)) H') (fun _ _ _ => False)) := by
  intro pins s σ H x y v u Q I rx ry h
  obtain ⟨a, dx, fs, b, dy, gs, rfl, rfl, ha, hb, q⟩ := h
  cases (show v = .ref a from rx); cases (show u = .ref b from ry)
  obtain ⟨od, J⟩ := ins_at I ha
  obtain ⟨od', J'⟩ := ins_at I hb
  obtain ⟨m, hF⟩ := I.fr
  have hu : X.A.units + 1 < cLine := by have := hr.un; omega
  refine ne_K hu hF I.ok.mod.kin J (W.InstAt.type J') hn hne hob fi hf (wpAny_mono (run_fnR1 (vs := [V.ref a, V.ref b]) (us := [Value.ref a, Value.ref b]) F hr hq passF I (.cons rfl (.cons rfl .nil)) q) (fun w s' z => ?_) fun _ _ z => z)
  obtain ⟨z', H', I', rz, r, rfl, qz⟩ := z
  cases (show w = .bool r from rz)
  exact ⟨r, rfl, .bl (!r), H', I', rfl, qz⟩
/-- len(o) by an own __len__ -/
theorem call_lenOwn {X : Cx} {k : Nat} {C g : Addr} {sp : Sp} (fi : W.findIn X.K (.ref C) "__len__" = some (some (.ref g))) (hf : W.isFn X.K (.ref g) = true) (F : FnR X.prog X.w X.K X.mg X.base (CX X.prog X.w) k g sp) (hr : Room (k + 1) X.A) (hq : Quiet X.A) :
    CallR X (.builtin "len") (fun xs H Q => ∃ (a dx : Addr) (fs : List (Str × V)), xs = [.ref a] ∧ H a = some (.ins C dx fs) ∧ sp [.ref a] H (fun z H' => ∃ i : Int, z = .int i ∧ 0 ≤ i ∧ i < 4611686018427387904 ∧ Q (.int i) H') (fun _ _ _ => False)) := by
  intro pins s σ H xs us Q I r h
  obtain ⟨a, dx, fs, rfl, ha, q⟩ := h
  obtain ⟨u, rfl, ru⟩ := vals1 r
  cases (show u = .ref a from ru)
  obtain ⟨od, J⟩ := ins_at I ha
  obtain ⟨m, hF⟩ := I.fr
  refine W.len_K hF I.ok.mod.kin J fi hf (wpAny_mono (run_fnR1 (vs := [V.ref a]) (us := [Value.ref a]) F hr hq passF I (.cons rfl .nil) q) (fun w s' z => ?_) fun _ _ z => z)
  obtain ⟨z', H', I', rz, i, rfl, h0, h1, qz⟩ := z
  obtain ⟨t, rfl⟩ := rz
  exact ⟨⟨h0, by have : (4611686018427387904 : Int) < 2 ^ 63 := by decide
                 omega⟩, .int i, H', I'.tok _, ⟨_, rfl⟩, qz⟩
theorem op_ownIn {X : Cx} {k : Nat} {C g : Addr} {sp : Sp} (fi : W.findIn X.K (.ref C) "__contains__" = some (some (.ref g))) (hf : W.isFn X.K (.ref g) = true) (F : FnR X.prog X.w X.K X.mg X.base (CX X.prog X.w) k g sp) (hr : Room k X.A) (hq : Quiet X.A) :
    OpR X (compareOp .In) (fun y x H Q => ∃ (a dx : Addr) (fs : List (Str × V)), x = .ref a ∧ H a = some (.ins C dx fs) ∧ sp [x, y] H (fun z H' => ∃ b, z = .bl b ∧ Q (.bl b) H') (fun _ _ _ => False)) := by
  intro pins s σ H y x v u Q I ry rx h
  obtain ⟨a, dx, fs, rfl, ha, q⟩ := h
  cases (show u = .ref a from rx)
  obtain ⟨od, J⟩ := ins_at I ha
  obtain ⟨m, hF⟩ := I.fr
  refine wpAny_bind (W.contains_K hF I.ok.mod.kin J fi hf ?_)
  refine wpAny_mono (run_fnR (vs := [V.ref a, y]) (us := [Value.ref a, v]) F hr hq passF I (.cons rfl (.cons ry .nil)) q) (fun w s' z => ?_) fun _ _ z => z
  obtain ⟨z', H', I', rz, b, rfl, qz⟩ := z
  cases (show w = .bool b from rz)
  exact wpAny_truthy_bool (wpAny_pure ⟨.bl b, H', I', rfl, qz⟩)
theorem op_ownNotIn {X : Cx} {k : Nat} {C g : Addr} {sp : Sp} (fi : W.findIn X.K (.ref C) "__contains__" = some (some (.ref g))) (hf : W.isFn X.K (.ref g) = true) (F : FnR X.prog X.w X.K X.mg X.base (CX X.prog X.w) k g sp) (hr : Room k X.A) (hq : Quiet X.A) :
    OpR X (compareOp .NotIn) (fun y x H Q => ∃ (a dx : Addr) (fs : List (Str × V)), x = .ref a ∧ H a = some (.ins C dx fs) ∧ sp [x, y] H (fun z H' => ∃ b, z = .bl b ∧ Q (.bl (!b)) H') (fun _ _ _ => False)) := by
  intro pins s σ H y x v u Q I ry rx h
  obtain ⟨a, dx, fs, rfl, ha, q⟩ := h
  cases (show u = .ref a from rx)
  obtain ⟨od, J⟩ := ins_at I ha
  obtain ⟨m, hF⟩ := I.fr
  refine wpAny_bind (W.contains_K hF I.ok.mod.kin J fi hf ?_)
  refine wpAny_mono (run_fnR (vs := [V.ref a, y]) (us := [Value.ref a, v]) F hr hq passF I (.cons rfl (.cons ry .nil)) q) (fun w s' z => ?_) fun _ _ z => z
  obtain ⟨z', H', I', rz, b, rfl, qz⟩ := z
  cases (show w = .bool b from rz)
  exact wpAny_truthy_bool (wpAny_pure ⟨.bl (!b), H', I', rfl, qz⟩)

/-! ### comparisons, whole -/
abbrev NoW : Value → Option Addr → Hp → Prop := fun _ _ _ => False
theorem OkR.noEx {c : Cf} {w w' : Value → Option Addr → Hp → Prop} {β : List Addr} {H : Hp} {α : Type} {r : Res α} {k : List Addr → Mem → α → Hp → Prop} (h : OkR c w β H (noEx r) k) : OkR c w' β H r k := by
  cases r with
  | ok v M => exact h
  | ex _ _ _ _ => exact h.elim
  | err => exact h.elim
/-- the reading of a comparison -/
def rCmp (c : Cf) (op : CmpOp) : R2 := fun x y H Q => ∃ β M v u, RelM c.G β M H ∧ RV c.G β H v x ∧ RV c.G β H u y ∧ OkR c NoW β H (compare c.P c.cal op v u M) (KQ c Q)
theorem fn_at {c : Cf} {T : Tb} {N : List Str} {sc : Scope} {wx : WX} {X : Cx} (cx : Ctx c T N sc wx X) {f : Str} {fa : Addr} {fd : FuncData} (h : c.G.fnA f = some (fa, fd)) : FnR X.prog X.w X.K X.mg X.base (CX X.prog X.w) (lev c.n) fa (spM c f) := by
  obtain ⟨d, hd⟩ := cx.stat.fn f fa fd h
  rw [cx.K, cx.mg]
  exact fnR_of (cx.fns c.G.hid f d fa fd hd h) (cx.stat.bind f d fa fd hd h)
theorem op_compare {c : Cf} {T : Tb} {N : List Str} {sc : Scope} {wx : WX} {X : Cx} (cx : Ctx c T N sc wx X) (op : CmpOp) : OpR X (compareOp op) (rCmp c op) := by
  refine OpR.dyn fun x y H Q => ?_
  rintro ⟨β, M, v, u, rm, rv, ru, ok⟩
  have plain : ∀ {op}, OkR c NoW β H (Res.of ((cmpP M op v u).map .bl) M) (KQ c Q) → ∃ r', OpR X (compareOp op) r' ∧ r' x y H Q := by
    intro op h
    obtain ⟨z, hz, gv⟩ := gv_of h
    exact ⟨_, op_cmp cx.K cx.units op, β, M, v, u, z, rm, rv, ru, hz, gv⟩
  have hr : Room (lev c.n) X.A := cx.room.mono (by omega)
  unfold compare at ok
  split at ok
  · split at ok
    · rename_i f hf
      split at ok
      · rename_i he
        unfold special at hf
        split at hf
        · rename_i cn ns vs hv
          obtain ⟨d, hd, hl⟩ := Option.bind_eq_some_iff.mp hf
          obtain ⟨C, ci⟩ := cx.stat.cls cn d hd
          obtain ⟨fa, fd, hfa, hm⟩ := ci.meth _ _ hl
          have hnm : d.nm = cn := by simpa using List.find?_some hd
          obtain ⟨a, C1, dx, ys, rfl, hc1, hi1, hl1, r1⟩ := fields_at rm rv hv
          have hcc := ci.at_
          rw [hnm, hc1] at hcc; cases hcc
          have other : (∃ (b dy : Addr) (gs : List (Str × V)), y = .ref b ∧ H b = some (.ins C dy gs)) ∨ ∃ n, TyX X.K H y (.type n) ∧ W.notFirst X.K C (.type n) = true := by
            rcases he with he | he
            · rw [hv] at he
              cases hu : fields M u with
              | none => rw [hu] at he; cases he
              | some t =>
                obtain ⟨cn2, ns2, vs2⟩ := t
                rw [hu] at he
                cases he
                obtain ⟨b, C2, dy, zs, rfl, hc2, hi2, hl2, r2⟩ := fields_at rm ru hu
                rw [hc1] at hc2; cases hc2
                exact .inl ⟨b, dy, _, rfl, hi2⟩
            · obtain ⟨n, hn⟩ := Option.isSome_iff_exists.mp he
              obtain ⟨ty, hm⟩ := tyNm_at rm ru hn
              exact .inr ⟨n, cx.K ▸ ty, cx.K ▸ (ci.oth n hm).1⟩
          refine ⟨_, op_ownEq (by rw [eqName, cx.K]; exact hm.at_) (cx.K ▸ hm.fn) (cx.K ▸ ci.first) (fn_at cx hfa) hr cx.quiet, a, dx, _, rfl, hi1, other, ?_⟩
          refine ⟨β, M, [v, u], rm, ⟨_, _, rfl, rv, _, _, rfl, ru, rfl⟩, ?_⟩
          refine (OkR.noEx ok.bind).imp fun β' M' z H' st rm' k x' rx' => ?_
          cases z with
          | bl b =>
            have := k β' H' Step.rfl' rm' x' (by simpa [boolR] using rx')
            exact this
          | _ => exact k.elim
        · cases hf
      · exact ok.elim
    · exact plain ok
  · split at ok
    · rename_i f hf
      split at ok
      · rename_i he
        unfold special at hf
        split at hf
        · rename_i cn ns vs hv
          rw [hv] at he
          obtain ⟨d, hd, hl⟩ := Option.bind_eq_some_iff.mp hf
          obtain ⟨C, ci⟩ := cx.stat.cls cn d hd
          obtain ⟨fa, fd, hfa, hm⟩ := ci.meth _ _ hl
          have hnm : d.nm = cn := by simpa using List.find?_some hd
          obtain ⟨a, C1, dx, ys, rfl, hc1, hi1, hl1, r1⟩ := fields_at rm rv hv
          cases hu : fields M u with
          | none => rw [hu] at he; cases he
          | some t =>
            obtain ⟨cn2, ns2, vs2⟩ := t
            rw [hu] at he
            cases he
            obtain ⟨b, C2, dy, zs, rfl, hc2, hi2, hl2, r2⟩ := fields_at rm ru hu
            rw [hc1] at hc2; cases hc2
            have hcc := ci.at_
            rw [hnm, hc1] at hcc; cases hcc
            refine ⟨_, op_ownNe (cx.K ▸ ci.ne_) (cx.K ▸ ci.ty.2.2.2) (by rw [cx.K]; exact hm.at_) (cx.K ▸ hm.fn) (cx.K ▸ ci.first) (fn_at cx hfa) (cx.room.mono (by omega)) cx.quiet, a, dx, _, b, dy, _, rfl, rfl, hi1, hi2, ?_⟩
            refine ⟨β, M, [v, u], rm, ⟨_, _, rfl, rv, _, _, rfl, ru, rfl⟩, ?_⟩
            refine (OkR.noEx ok.bind).imp fun β' M' z H' st rm' k x' rx' => ?_
            cases z with
            | bl b => exact ⟨b, rx', k β' H' Step.rfl' rm' _ (by show V.bl (!b) = V.bl (true ^^ b); simp)⟩
            | _ => exact k.elim
        · cases hf
      · exact ok.elim
    · exact plain ok
  · split at ok
    · rename_i f hf
      unfold special at hf
      split at hf
      · rename_i cn ns vs hv
        obtain ⟨d, hd, hl⟩ := Option.bind_eq_some_iff.mp hf
        obtain ⟨C, ci⟩ := cx.stat.cls cn d hd
        obtain ⟨fa, fd, hfa, hm⟩ := ci.meth _ _ hl
        have hnm : d.nm = cn := by simpa using List.find?_some hd
        obtain ⟨a, C1, dx, ys, rfl, hc1, hi1, hl1, r1⟩ := fields_at rm ru hv
        have := ci.at_
        rw [hnm, hc1] at this; cases this
        refine ⟨_, op_ownIn (cx.K ▸ hm.at_) (cx.K ▸ hm.fn) (fn_at cx hfa) hr cx.quiet, a, dx, _, rfl, hi1, ?_⟩
        refine ⟨β, M, [u, v], rm, ⟨_, _, rfl, ru, _, _, rfl, rv, rfl⟩, ?_⟩
        refine (OkR.noEx ok.bind).imp fun β' M' z H' st rm' k x' rx' => ?_
        cases z with
        | bl b => exact ⟨b, rx', k β' H' Step.rfl' rm' _ (by show V.bl b = V.bl (false ^^ b); simp)⟩
        | _ => exact k.elim
      · cases hf
    · exact plain ok
  · split at ok
    · rename_i f hf
      unfold special at hf
      split at hf
      · rename_i cn ns vs hv
        obtain ⟨d, hd, hl⟩ := Option.bind_eq_some_iff.mp hf
        obtain ⟨C, ci⟩ := cx.stat.cls cn d hd
        obtain ⟨fa, fd, hfa, hm⟩ := ci.meth _ _ hl
        have hnm : d.nm = cn := by simpa using List.find?_some hd
        obtain ⟨a, C1, dx, ys, rfl, hc1, hi1, hl1, r1⟩ := fields_at rm ru hv
        have := ci.at_
        rw [hnm, hc1] at this; cases this
        refine ⟨_, op_ownNotIn (cx.K ▸ hm.at_) (cx.K ▸ hm.fn) (fn_at cx hfa) hr cx.quiet, a, dx, _, rfl, hi1, ?_⟩
        refine ⟨β, M, [u, v], rm, ⟨_, _, rfl, ru, _, _, rfl, rv, rfl⟩, ?_⟩
        refine (OkR.noEx ok.bind).imp fun β' M' z H' st rm' k x' rx' => ?_
        cases z with
        | bl b => exact ⟨b, rx', k β' H' Step.rfl' rm' _ (by show V.bl (!b) = V.bl (true ^^ b); simp)⟩
        | _ => exact k.elim
      · cases hf
    · exact plain ok
  · exact plain ok
theorem compare_bl {c : Cf} {op : CmpOp} {v u : MV} {M M' : Mem} {z : MV} (h : compare c.P c.cal op v u M = .ok z M') : ∃ b, z = .bl b := by
  have plain : ∀ {op}, Res.of ((cmpP M op v u).map .bl) M = .ok z M' → ∃ b, z = .bl b := by
    intro op h
    cases hc : cmpP M op v u with
    | none => rw [hc] at h; cases h
    | some b => rw [hc] at h; cases h; exact ⟨b, rfl⟩
  have own : ∀ {r : Res MV} {n : Bool}, (noEx r).bind (boolR n) = .ok z M' → ∃ b, z = .bl b := by
    intro r n h
    cases r with
    | ok w M1 =>
      cases w with
      | bl b => cases h; exact ⟨_, rfl⟩
      | _ => cases h
    | ex _ _ _ _ => cases h
    | err => cases h
  unfold compare at h
  split at h
  · split at h
    · split at h
      · exact own h
      · cases h
    · exact plain h
  · split at h
    · split at h
      · exact own h
      · cases h
    · exact plain h
  · split at h
    · exact own h
    · exact plain h
  · split at h
    · exact own h
    · exact plain h
  · exact plain h
theorem tE_cmp {c : Cf} {T : Tb} {N : List Str} {sc : Scope} {wx : WX} {X : Cx} (cx : Ctx c T N sc wx X) {a b : Expr} {op : CmpOp} {ma mb : ME} {pos : Pos} (ha : PE X a (tE c wx ma)) (hb : PE X b (tE c wx mb)) (hs : isSet b = false) : PE X (.Compare a [op] [b] pos) (tE c wx (.cmp op ma mb)) := by
  refine PE.imp (pe_cmpR (op_compare cx op) ha hb (noMark hs)) fun σ H Q => ?_
  rintro ⟨β, M, ρ, rm, rs, ok⟩
  rw [evalE] at ok
  refine ⟨β, M, ρ, rm, rs, ok.bind.imp fun β1 M1 v H1 st1 rm1 k x rx => ?_⟩
  refine ⟨β1, M1, ρ, rm1, rs.step st1, k.bind.imp fun β2 M2 u H2 st2 rm2 k2 y ry => ?_⟩
  exact ⟨β2, M2, v, u, rm2, RV.step st2 _ _ rx, ry, k2.noEx⟩
theorem tT_cmp {c : Cf} {T : Tb} {N : List Str} {sc : Scope} {wx : WX} {X : Cx} (cx : Ctx c T N sc wx X) {a b : Expr} {op : CmpOp} {ma mb : ME} {pos : Pos} (ha : PE X a (tE c wx ma)) (hb : PE X b (tE c wx mb)) (hs : isSet b = false) : PT X (.Compare a [op] [b] pos) (tTst c wx (.cmp op ma mb)) := by
  refine tT_val ?_ ?_
  · refine PT.imp (pt_cmpR (op_compare cx op) ha hb (noMark hs)) fun σ H Q => ?_
    rintro ⟨β, M, ρ, rm, rs, ok⟩
    rw [evalE] at ok
    refine ⟨β, M, ρ, rm, rs, ok.bind.imp fun β1 M1 v H1 st1 rm1 k x rx => ?_⟩
    refine ⟨β1, M1, ρ, rm1, rs.step st1, k.bind.imp fun β2 M2 u H2 st2 rm2 k2 y ry => ?_⟩
    exact ⟨β2, M2, v, u, rm2, RV.step st2 _ _ rx, ry, k2.noEx⟩
  · intro ρ M v M' h
    rw [evalE] at h
    revert h
    cases evalE c.P c.cal ma ρ M with
    | ok x M1 =>
      simp only [Res.bind]
      cases evalE c.P c.cal mb ρ M1 with
      | ok y M2 =>
        simp only [Res.bind]
        intro h
        cases hc : compare c.P c.cal op x y M2 with
        | ok z M3 => rw [hc] at h; cases h; exact compare_bl hc
        | ex _ _ _ _ => rw [hc] at h; cases h
        | err => rw [hc] at h; cases h
      | ex _ _ _ _ => simp
      | err => simp
    | ex _ _ _ _ => simp [Res.bind]
    | err => simp [Res.bind]
end Mi
/-! Mini, part I: calls, where what is raised is wished for at the slots. -/
set_option autoImplicit false
set_option linter.all false
namespace Mi
open PySem L2

theorem run_makeSD {X : Cx} {CX' : CXT} {k : Nat} {f C : Addr} {fd : FuncData} {ps : List Str} {sp : Sp} {E : XK} {pins : List (Addr × Obj)} {σ : St} {H : Hp} {s : Shared} {Q : VK} {us : List Value} {vs : List V}
    (M : Mk X.K C f) (F : FnOk X.prog X.w X.K X.mg X.base CX' k f fd ps sp) (hr : Room (k + 1) X.A) (hqt : Quiet X.A) (hb : Binds X.K fd ps []) (hx : PassesAt CX' X σ E) (I : L2.Inv X pins σ H s) (r : Vals vs us)
    (h : ∀ (x dx : Addr), H x = none → H dx = none → dx ≠ x → sp (V.ref x :: vs) (upd (upd H dx (HO.own x)) x (HO.ins C dx [])) (fun v H2 => v = V.non ∧ Q (V.ref x) H2) E) :
    wpAny (model X.prog X.w) X.A (call (Value.ref C) us) (EP X pins σ Q) X.xe s := by
  have hq := h (s.heap.objs.size + 1) s.heap.objs.size (HOk.fresh I.hok (Nat.le_succ _)) (HOk.fresh I.hok (Nat.le_refl _)) (Nat.ne_of_lt (Nat.lt_succ_self _))
  have I2 := Inv.made (C := C) I
  have r2 : Vals (V.ref (s.heap.objs.size + 1) :: vs) (Value.ref (s.heap.objs.size + 1) :: us) := Paired.cons rfl r
  have hl := Vals.length r2
  rw [F.len _ _ _ _ hq] at hl
  have hb' := hb { heap := (s.heap.push W.emptyDict).push (W.instObj C s.heap.objs.size), gens := s.gens, drawn := s.drawn, toks := s.toks, os := s.os } (Value.ref (s.heap.objs.size + 1) :: us) I2.kIn (by simpa using hl.symm)
  rw [List.append_nil] at hb'
  refine wpAny_call (make_map I.kIn M.makes M.init (beq_iff_eq.mp M.fn) (codeAny_mono (F.run (X.A.under (Code.builtin "type.__call__" { pos := Value.ref C :: us })) X.stack _ _ { pos := Value.ref (s.heap.objs.size + 1) :: us } _ _ _ E (Room.make hr C us []) (hqt.make C us []) (Env0.make I2.env0 C us []) hb' r2 hq) fun r s' hq' => ?_))
  cases r with
  | error e => exact hx pins _ _ e s' I2 hq'
  | ok fl =>
    cases fl with
    | ret u =>
      obtain ⟨v, H', I3, rv, ev, q3⟩ := Inv.after I2 hq'
      subst ev
      exact ⟨rv, V.ref (s.heap.objs.size + 1), H', I3, rfl, q3⟩
    | _ => exact hq'.elim
/-- a method called, its raises wished for at the slots -/
theorem pe_methSD {X : Cx} {CX' : CXT} {k : Nat} {f C : Addr} {fd : FuncData} {ps : List Str} {sp : Sp} {E : St → XK} {m : Str} {pos apos : Pos} {e o : Expr} {es : List Expr} {ta : TE} {t : TA} {pl : Sem Bool}
    (he : PE X o ta) (c : Cls X.K C) (hm : Meth X.K C m f) (F : FnOk X.prog X.w X.K X.mg X.base CX' k f fd ps sp) (hr : Room k X.A) (hq : Quiet X.A) (hb : Binds X.K fd ps []) (hx : ∀ σ, PassesAt CX' X σ (E σ)) (ha : PA X (e :: es) t)
    (hst : starEach (e :: es) X.env = (false, eval e X.env) :: starEach es X.env) (hpl : ((backTo pos (starEach es X.env)).any fun x => x.1) = false)
    (ht : eval ((o.Attribute m apos).Call (e :: es) [] pos) X.env = (do
      let ov ← eval o X.env
      standAt apos.atName
      let __x ← holding [ov] (getMethod ov m pl)
      match __x with
      | (f, first) => callWith pos f first (backTo pos (starEach (e :: es) X.env)) (backToKw pos (keywordEach [] X.env)))) :
    PE X ((o.Attribute m apos).Call (e :: es) [] pos) (fun σ H Q => ta σ H fun x H1 => ∃ (a dx : Addr) (fs : List (Str × V)), x = .ref a ∧ H1 a = some (.ins C dx fs) ∧ fs.lookup m = none ∧ t σ H1 fun vs H2 => sp (x :: vs) H2 Q (E σ)) := by
  refine ⟨fun pins s σ H Q I h => W.methodCall_KW (thn (he.run pins s σ H _ I h) fun u s1 x => ?_) ht⟩
  obtain ⟨x, H1, I1, rx, a, dx, fs, rfl, ea, l, q⟩ := x
  cases (show u = .ref a from rx)
  refine getmeth_ok I1 ea c hm l (W.callWith_K I.ok.mod.kin hm.kp (thn (ha.run pos pins s1 σ H1 _ I1 q) fun us s2 x => ?_) hst hpl)
  obtain ⟨vs, H2, I2, r, q2⟩ := x
  exact ⟨I2.kIn, run_fnS (vs := V.ref a :: vs) (us := Value.ref a :: us) F hr hq hb (hx σ) I2 (Paired.cons rfl r) q2⟩
/-- an instance made, what its __init__ raises wished for at the slots -/
theorem pe_makeSD {X : Cx} {CX' : CXT} {k : Nat} {f C : Addr} {fd : FuncData} {ps : List Str} {sp : Sp} {E : St → XK} {x : Str} {p pos : Pos} {e : Expr} {es : List Expr} {t : TA}
    (M : Mk X.K C f) (F : FnOk X.prog X.w X.K X.mg X.base CX' k f fd ps sp) (hr : Room (k + 1) X.A) (hqt : Quiet X.A) (hg : Gl X x) (hm : X.mg x = some (Value.ref C)) (hb : Binds X.K fd ps []) (hx : ∀ σ, PassesAt CX' X σ (E σ)) (ha : PA X (e :: es) t)
    (hdb : (x == Str.ofString "__debug__") = false) (he : starEach (e :: es) X.env = (false, eval e X.env) :: starEach es X.env) (hpl : ((backTo pos (starEach es X.env)).any fun x => x.1) = false) :
    PE X ((Expr.Name x p).Call (e :: es) [] pos) (fun σ H Q => t σ H fun vs H1 => ∀ (x dx : Addr), H1 x = none → H1 dx = none → dx ≠ x → sp (V.ref x :: vs) (upd (upd H1 dx (HO.own x)) x (HO.ins C dx [])) (fun v H2 => v = V.non ∧ Q (V.ref x) H2) (E σ)) := by
  refine ⟨fun pins s σ H Q I h => wpAny_Call_Name_kw (ld_glob I hg hm (W.callWith_K I.ok.mod.kin M.kp (thn (ha.run pos pins s σ H _ I h) fun us s1 x => ?_) he hpl) hdb)⟩
  obtain ⟨vs, H1, I1, r, q⟩ := x
  exact ⟨I1.kIn, run_makeSD M F hr hqt hb (hx σ) I1 r q⟩

/-! ### the calls of Mini -/
/-- a plain name -/
def okN (x : Str) : Bool := !(x == Str.ofString "__debug__") && !(x == Str.ofString "__name__")
theorem okN_d {x : Str} (h : okN x = true) : (x == Str.ofString "__debug__") = false := by
  simp only [okN, Bool.and_eq_true, Bool.not_eq_true'] at h; exact h.1
theorem okN_n {x : Str} (h : okN x = true) : x ≠ Str.ofString "__name__" := by
  simp only [okN, Bool.and_eq_true, Bool.not_eq_true'] at h
  intro e; subst e; exact absurd h.2 (by simp)
theorem fnok_at {c : Cf} {T : Tb} {N : List Str} {sc : Scope} {wx : WX} {X : Cx} (cx : Ctx c T N sc wx X) {f : Str} {fa : Addr} {fd : FuncData} (h : c.G.fnA f = some (fa, fd)) : ∃ d, fnOf? c.P f = some d ∧ FnOk X.prog X.w X.K X.mg X.base (CX X.prog X.w) (lev c.n) fa fd d.ps (spM c f) ∧ Binds X.K fd d.ps [] ∧ W.keepIn X.K (.ref fa) = true := by
  obtain ⟨d, hd⟩ := cx.stat.fn f fa fd h
  rw [cx.K, cx.mg]
  exact ⟨d, hd, cx.fns c.G.hid f d fa fd hd h, cx.stat.bind f d fa fd hd h, cx.stat.keep f fa fd h⟩
theorem tE_call {c : Cf} {T : Tb} {N : List Str} {sc : Scope} {wx : WX} {X : Cx} (cx : Ctx c T N sc wx X) {f : Str} {e : Expr} {es : List Expr} {p pos : Pos} {ms : List ME} (hf : f ∈ T.plain) (hg : Gl X f) (hn : okN f = true) (hs : isStar e = false) (hss : es.all (fun e => !isStar e) = true) (ha : PA X (e :: es) (tA c wx ms)) : PE X (.Call (.Name f p) (e :: es) [] pos) (tE c wx (.call f ms)) := by
  obtain ⟨fa, fd, hfa, hmg⟩ := cx.stat.plain f hf
  obtain ⟨d, hd, F, hb, hk⟩ := fnok_at cx hfa
  refine PE.imp (pe_callS (E := fun σ cl d H => wx cl d σ H) F (cx.room.mono (by omega)) cx.quiet hg (cx.mg ▸ hmg) hk hb cx.pa ha (okN_d hn) (notStar hs) (starsNil hss)) fun σ H Q => ?_
  rintro ⟨β, M, ρ, rm, rs, ok⟩
  rw [evalE] at ok
  refine ⟨β, M, ρ, rm, rs, ok.bind.imp fun β1 M1 vs H1 st1 rm1 k xs rxs => ?_⟩
  exact ⟨β1, M1, vs, rm1, rxs, k⟩
theorem zip_lookup : ∀ {ns : List Str} {ys : List V} {m : Str}, ns.contains m = false → (ns.zip ys).lookup m = none
  | [], _, _, _ => rfl
  | n :: ns, [], _, _ => rfl
  | n :: ns, y :: ys, m, h => by
    simp only [List.contains_cons, Bool.or_eq_false_iff] at h
    rw [List.zip_cons_cons, List.lookup_cons, h.1]
    exact zip_lookup h.2
theorem methOf_at {c : Cf} {T : Tb} {N : List Str} {sc : Scope} {wx : WX} {X : Cx} (cx : Ctx c T N sc wx X) {M : Mem} {v : MV} {m f : Str} (h : methOf c.P M v m = some f) : ∃ cn ns vs d C fa fd, fields M v = some (cn, ns, vs) ∧ ns.contains m = false ∧ clsOf c.P cn = some d ∧ d.nm = cn ∧ ClsI c.G d C ∧ c.G.cls cn = some C ∧ c.G.fnA f = some (fa, fd) ∧ Meth c.G.K C m fa := by
  unfold methOf at h
  split at h
  · rename_i cn ns vs hv
    split at h
    · cases h
    · rename_i hns
      obtain ⟨d, hd, hl⟩ := Option.bind_eq_some_iff.mp h
      obtain ⟨C, ci⟩ := cx.stat.cls cn d hd
      obtain ⟨fa, fd, hfa, hm⟩ := ci.meth _ _ hl
      have hnm : d.nm = cn := by simpa using List.find?_some hd
      exact ⟨cn, ns, vs, d, C, fa, fd, hv, by simpa using hns, hd, hnm, ci, hnm ▸ ci.at_, hfa, hm⟩
  · cases h
/-- an own method, the receiver's class being known by Mini -/
theorem tE_methOwn {c : Cf} {T : Tb} {N : List Str} {sc : Scope} {wx : WX} {X : Cx} (cx : Ctx c T N sc wx X) {o e : Expr} {es : List Expr} {m : Str} {apos pos : Pos} {mo : ME} {ms : List ME} {pl : Sem Bool} (ho : PE X o (tE c wx mo)) (hs : isStar e = false) (hss : es.all (fun e => !isStar e) = true) (ha : PA X (e :: es) (tA c wx ms))
    (ht : eval ((o.Attribute m apos).Call (e :: es) [] pos) X.env = (do
      let ov ← eval o X.env
      standAt apos.atName
      let __x ← holding [ov] (getMethod ov m pl)
      match __x with
      | (f, first) => callWith pos f first (backTo pos (starEach (e :: es) X.env)) (backToKw pos (keywordEach [] X.env))))
    {σ : St} {H : Hp} {Q : VK} {β : List Addr} {M : Mem} {ρ : Env} (rm : RelM c.G β M H) (rs : RelS c.G β H ρ σ) {v : MV} {M1 : Mem} (ev : evalE c.P c.cal mo ρ M = .ok v M1) {f : Str} (hm : methOf c.P M1 v m = some f)
    (ok : ∀ β1 H1, Step c.G β H β1 H1 → RelM c.G β1 M1 H1 → OkR c (fun cl d => wx cl d σ) β1 H1 ((evalEs c.P c.cal ms ρ M1).bind fun vs M2 => c.cal f (v :: vs) M2) (KQ c Q)) :
    ∃ t', PE X ((o.Attribute m apos).Call (e :: es) [] pos) t' ∧ t' σ H Q := by
  obtain ⟨cn, ns, vs, d, C, fa, fd, hv, hns, hd, hnm, ci, hC, hfa, hmm⟩ := methOf_at cx hm
  obtain ⟨d', hd', F, hb, hk⟩ := fnok_at cx hfa
  refine ⟨_, pe_methSD (pl := pl) (E := fun σ cl d H => wx cl d σ H) ho (cx.K ▸ ci.cls) (cx.K ▸ hmm) F (cx.room.mono (by omega)) cx.quiet hb cx.pa ha (notStar hs) (starsNil hss) ht, ?_⟩
  refine ⟨β, M, ρ, rm, rs, ?_⟩
  rw [ev]
  intro β1 H1 st1 rm1 x rx
  obtain ⟨a, C1, dx, ys, rfl, hc1, hi1, hl1, r1⟩ := fields_at rm1 rx hv
  rw [hC] at hc1; cases hc1
  refine ⟨a, dx, _, rfl, hi1, zip_lookup hns, ?_⟩
  refine ⟨β1, M1, ρ, rm1, rs.step st1, (ok β1 H1 st1 rm1).bind.imp fun β2 M2 us H2 st2 rm2 k xs rxs => ?_⟩
  exact ⟨β2, M2, v :: us, rm2, ⟨_, _, rfl, RV.step st2 _ _ rx, rxs⟩, k⟩
end Mi
/-! Mini, part J: the end of a region; instances made. -/
set_option autoImplicit false
set_option linter.all false
namespace Mi
open PySem L2

mutual
theorem RV.lowOf {G : Wd} {β : List Addr} {H : Hp} : ∀ {v : MV} {x : V}, RV G β H v x → low β.length v = true
  | .non, _, _ => rfl
  | .bl _, _, _ => rfl
  | .int _, _, _ => rfl
  | .str _, _, _ => rfl
  | .tup xs, x, ⟨_, _, _, _, r⟩ => RVs.lowOf r
  | .fls xs, x, ⟨_, _, _, _, r⟩ => RVs.lowOf r
  | .scr xs, x, ⟨_, _, _, _, r⟩ => RVs.lowOf r
  | .fdc ks vs, x, ⟨_, kvs, _, _, _, hk, r⟩ => by
    simp only [low, Bool.and_eq_true]
    refine ⟨?_, RVs.lowOf r⟩
    subst hk
    exact lows_keys _
  | .obj _ _ vs, x, ⟨_, _, _, _, _, _, _, _, _, r⟩ => RVs.lowOf r
  | .exn _ _ vs, x, ⟨_, _, _, _, _, _, _, _, _, _, _, _, _, r⟩ => RVs.lowOf r
  | .ref i, x, ⟨a, h, _⟩ => by
    simp only [low, decide_eq_true_eq]
    exact (List.getElem?_eq_some_iff.mp h).1
theorem RVs.lowOf {G : Wd} {β : List Addr} {H : Hp} : ∀ {vs : List MV} {xs : List V}, RVs G β H vs xs → lows β.length vs = true
  | [], _, _ => rfl
  | v :: vs, xs, ⟨_, _, _, r, rs⟩ => by
    simp only [lows, Bool.and_eq_true]
    exact ⟨RV.lowOf r, RVs.lowOf rs⟩
theorem lows_keys {n : Nat} : ∀ (kvs : List (L2.Key × V)), lows n (kvs.map fun p => kM p.1) = true
  | [] => rfl
  | p :: r => by
    simp only [List.map_cons, lows, Bool.and_eq_true]
    refine ⟨?_, lows_keys r⟩
    cases p.1 <;> rfl
end
theorem pre_at {β β' : List Addr} (h : β <+: β') {i : Nat} (hi : i < β.length) : β[i]? = β'[i]? := by
  obtain ⟨t, rfl⟩ := h
  rw [List.getElem?_append_left hi]
/-- β lies under β': what β' does not name, β does not name; the first n stand alike -/
structure Und (G : Wd) (n : Nat) (β β' : List Addr) : Prop where
  sub : ∀ q, G.out β' q → G.out β q
  at_ : ∀ i, i < n → β'[i]? = β[i]?
theorem Und.pre {G : Wd} {β β' : List Addr} (h : β <+: β') : Und G β.length β β' := ⟨fun _ o => o.cut h, fun _ hi => (pre_at h hi).symm⟩
mutual
theorem RV.cut {G : Wd} {n : Nat} {β β' : List Addr} {H : Hp} (p : Und G n β β') : ∀ {v : MV} {x : V}, RV G β' H v x → low n v = true → RV G β H v x
  | .non, _, h, _ => h
  | .bl _, _, h, _ => h
  | .int _, _, h, _ => h
  | .str _, _, h, _ => h
  | .tup xs, x, ⟨a, ys, e, f, r⟩, l => ⟨a, ys, e, f.elim (fun f => .inl ⟨p.sub _ f.1, f.2⟩) .inr, RVs.cut p r l⟩
  | .fls xs, x, ⟨a, ys, e, f, r⟩, l => ⟨a, ys, e, ⟨p.sub _ f.1, f.2⟩, RVs.cut p r l⟩
  | .scr xs, x, ⟨a, ys, e, f, r⟩, l => ⟨a, ys, e, f.elim (fun f => .inl ⟨p.sub _ f.1, f.2⟩) .inr, RVs.cut p r l⟩
  | .fdc ks vs, x, ⟨a, kvs, e, n, rd, hk, r⟩, l => by
    simp only [low, Bool.and_eq_true] at l
    exact ⟨a, kvs, e, p.sub _ n, rd, hk, RVs.cut p r l.2⟩
  | .obj _ _ vs, x, ⟨a, C, dx, ys, e, n, hc, hi, hl, r⟩, l => ⟨a, C, dx, ys, e, p.sub _ n, hc, hi, hl, RVs.cut p r l⟩
  | .exn _ _ vs, x, ⟨a, C, dx, ys, fs, e, n, n2, hc, hi, hd, lk, hl, r⟩, l => ⟨a, C, dx, ys, fs, e, p.sub _ n, p.sub _ n2, hc, hi, hd, lk, hl, RVs.cut p r l⟩
  | .ref i, x, ⟨a, h, e⟩, l => by
    simp only [low, decide_eq_true_eq] at l
    exact ⟨a, (p.at_ i l).symm.trans h, e⟩
theorem RVs.cut {G : Wd} {n : Nat} {β β' : List Addr} {H : Hp} (p : Und G n β β') : ∀ {vs : List MV} {xs : List V}, RVs G β' H vs xs → lows n vs = true → RVs G β H vs xs
  | [], _, h, _ => h
  | v :: vs, xs, ⟨y, t, e, r, rs⟩, l => by
    simp only [lows, Bool.and_eq_true] at l
    exact ⟨y, t, e, RV.cut p r l.1, RVs.cut p rs l.2⟩
end
theorem frz_keys (d : Nat → Option MV) : ∀ (kvs : List (L2.Key × V)), frzWs d (kvs.map fun p => kM p.1) = some (kvs.map fun p => kM p.1)
  | [] => rfl
  | p :: r => by
    have h : frzW d (kM p.1) = some (kM p.1) := by cases p.1 <;> rfl
    simp only [List.map_cons, frzWs, h, frz_keys d r]
mutual
theorem RV.frz {G : Wd} {n : Nat} {β β' : List Addr} {H : Hp} (p : Und G n β β') {d : Nat → Option MV} (hd : ∀ (i : Nat) (a : Addr) (w : MV), β'[i]? = some a → d i = some w → RV G β H w (.ref a)) : ∀ {v w : MV} {x : V}, RV G β' H v x → frzW d v = some w → RV G β H w x
  | .non, w, _, h, e => by cases e; exact h
  | .bl _, w, _, h, e => by cases e; exact h
  | .int _, w, _, h, e => by cases e; exact h
  | .str _, w, _, h, e => by cases e; exact h
  | .tup xs, w, x, ⟨a, ys, ex, f, r⟩, e => by
    obtain ⟨ws, hw, rfl⟩ := Option.map_eq_some_iff.mp e
    exact ⟨a, ys, ex, f.elim (fun f => .inl ⟨p.sub _ f.1, f.2⟩) .inr, RVs.frz p hd r hw⟩
  | .fls xs, w, x, ⟨a, ys, ex, f, r⟩, e => by
    obtain ⟨ws, hw, rfl⟩ := Option.map_eq_some_iff.mp e
    exact ⟨a, ys, ex, ⟨p.sub _ f.1, f.2⟩, RVs.frz p hd r hw⟩
  | .scr xs, w, x, ⟨a, ys, ex, f, r⟩, e => by
    obtain ⟨ws, hw, rfl⟩ := Option.map_eq_some_iff.mp e
    exact ⟨a, ys, ex, f.elim (fun f => .inl ⟨p.sub _ f.1, f.2⟩) .inr, RVs.frz p hd r hw⟩
  | .fdc ks vs, w, x, ⟨a, kvs, ex, n, rd, hk, r⟩, e => by
    subst hk
    simp only [frzW, frz_keys] at e
    split at e
    · rename_i ks' vs' h1 h2
      cases h1; cases e
      exact ⟨a, kvs, ex, p.sub _ n, rd, rfl, RVs.frz p hd r h2⟩
    · cases e
  | .obj _ _ vs, w, x, ⟨a, C, dx, ys, ex, n, hc, hi, hl, r⟩, e => by
    obtain ⟨ws, hw, rfl⟩ := Option.map_eq_some_iff.mp e
    have r' := RVs.frz p hd r hw
    exact ⟨a, C, dx, ys, ex, p.sub _ n, hc, hi, by rw [hl, ← r.len, r'.len], r'⟩
  | .exn _ _ vs, w, x, ⟨a, C, dx, ys, fs, ex, n, n2, hc, hi, hd2, lk, hl, r⟩, e => by
    obtain ⟨ws, hw, rfl⟩ := Option.map_eq_some_iff.mp e
    have r' := RVs.frz p hd r hw
    exact ⟨a, C, dx, ys, fs, ex, p.sub _ n, p.sub _ n2, hc, hi, hd2, lk, by rw [hl, ← r.len, r'.len], r'⟩
  | .ref i, w, x, ⟨a, h, ex⟩, e => by subst ex; exact hd i a w h e
theorem RVs.frz {G : Wd} {n : Nat} {β β' : List Addr} {H : Hp} (p : Und G n β β') {d : Nat → Option MV} (hd : ∀ (i : Nat) (a : Addr) (w : MV), β'[i]? = some a → d i = some w → RV G β H w (.ref a)) : ∀ {vs ws : List MV} {xs : List V}, RVs G β' H vs xs → frzWs d vs = some ws → RVs G β H ws xs
  | [], ws, _, h, e => by cases e; exact h
  | v :: vs, ws, xs, ⟨y, t, ex, r, rs⟩, e => by
    simp only [frzWs] at e
    split at e
    · rename_i w ws' h1 h2
      cases e
      exact ⟨y, t, ex, RV.frz p hd r h1, RVs.frz p hd rs h2⟩
    · cases e
end
/-- objects that are frozen; M2: the memory in which they are looked up -/
theorem frzR_okU {G : Wd} {n : Nat} {β β' : List Addr} {M2 : Mem} {H : Hp} (p : Und G n β β') (ob : ∀ (i : Nat) (q : Addr) (o : MO), n ≤ i → β'[i]? = some q → M2[i]? = some o → o ≠ .dead → RO G β' H o q ∧ G.out β q) : ∀ (k : Nat) (i : Nat) (a : Addr) (w : MV), β'[i]? = some a → frzR n M2 k i = some w → RV G β H w (.ref a)
  | 0, _, _, _, _, h => by cases h
  | k + 1, i, a, w, hi, h => by
    rw [frzR] at h
    split at h
    · rename_i hl
      cases h
      exact ⟨a, (p.at_ i hl).symm.trans hi, rfl⟩
    · rename_i hl
      split at h
      · rename_i o ho
        have key : o ≠ .dead → RO G β' H o a ∧ G.out β a := ob i a o (by omega) hi ho
        cases o with
        | lst xs =>
          obtain ⟨⟨ys, hy, rs⟩, nin⟩ := key (by simp)
          obtain ⟨ws, hw, rfl⟩ := Option.map_eq_some_iff.mp h
          exact ⟨a, ys, rfl, ⟨nin, hy⟩, RVs.frz p (frzR_okU p ob k) rs hw⟩
        | dct ep ks vs =>
          obtain ⟨⟨kvs, hy, hk, rs⟩, nin⟩ := key (by simp)
          subst hk
          simp only [frzO, frz_keys] at h
          split at h
          · rename_i ks' vs' h1 h2
            cases h1; cases h
            exact ⟨a, kvs, rfl, nin, .inl hy, rfl, RVs.frz p (frzR_okU p ob k) rs h2⟩
          · cases h
        | ins cn ns vs =>
          obtain ⟨⟨C, dx, ys, hc, hy, hl', rs⟩, nin⟩ := key (by simp)
          obtain ⟨ws, hw, rfl⟩ := Option.map_eq_some_iff.mp h
          have r' := RVs.frz p (frzR_okU p ob k) rs hw
          exact ⟨a, C, dx, ys, rfl, nin, hc, hy, by rw [hl', ← rs.len, r'.len], r'⟩
        | dead => cases h
        | lck _ _ => cases h
      · cases h
theorem new_out {G : Wd} {β β' : List Addr} {M' : Mem} {H : Hp} (p : β <+: β') (rm : RelM G β' M' H) {i : Nat} {a : Addr} (hl : β.length ≤ i) (hi : β'[i]? = some a) : G.out β a := by
  refine ⟨fun m => ?_, rm.dis a (List.mem_iff_getElem?.mpr ⟨i, hi⟩)⟩
  obtain ⟨j, hj⟩ := List.mem_iff_getElem?.mp m
  have hjl := (List.getElem?_eq_some_iff.mp hj).1
  have hj' := (pre_at p hjl).symm.trans hj
  have h1 := List.getElem?_eq_some_iff.mp hj'
  have h2 := List.getElem?_eq_some_iff.mp hi
  have hp := List.pairwise_iff_getElem.mp rm.nd
  exact hp j i h1.1 h2.1 (by omega) (h1.2.trans h2.2.symm)
theorem frzR_ok {G : Wd} {β β' : List Addr} {M' : Mem} {H : Hp} (p : β <+: β') (rm : RelM G β' M' H) (k i : Nat) (a : Addr) (w : MV) (hi : β'[i]? = some a) (h : frzR β.length M' k i = some w) : RV G β H w (.ref a) :=
  frzR_okU (Und.pre p) (fun i q o hl hi ho _ => ⟨rm.obj i q o hi ho, new_out p rm hl hi⟩) k i a w hi h
/-- the region's end -/
theorem region {G : Wd} {β β' : List Addr} {M M' : Mem} {H H' : Hp} (rm : RelM G β M H) (st : Step G β H β' H') (rm' : RelM G β' M' H') (lo : lowM M.length M M' = true) : Step G β H β H' ∧ RelM G β (M'.take M.length) H' := by
  refine ⟨⟨List.prefix_refl _, fun _ h n => (n h).elim, st.keepL, st.keepH, st.keepF⟩, rm.nd, ?_, fun i a o hi ho => ?_, rm.dis, rm'.hid⟩
  · have : β.length ≤ β'.length := by obtain ⟨t, rfl⟩ := st.pre; simp
    rw [List.length_take, ← rm'.len, ← rm.len]; omega
  · have hl := (List.getElem?_eq_some_iff.mp hi).1
    have hlM : i < M.length := rm.len ▸ hl
    rw [List.getElem?_take_of_lt hlM] at ho
    have ro := rm'.obj i a o (st.at hi) ho
    have hlow := List.all_eq_true.mp lo i (List.mem_range.mpr hlM)
    have hlo : lowO β.length o = true := by
      simp only [Bool.or_eq_true, decide_eq_true_eq] at hlow
      rcases hlow.symm with e | e
      · rw [ho] at e
        have r0 := rm.obj i a o hi e.symm
        cases o with
        | lst xs => obtain ⟨ys, _, rs⟩ := r0; exact rs.lowOf
        | dct ep ks vs =>
          obtain ⟨kvs, _, hk, rs⟩ := r0
          simp only [lowO, Bool.and_eq_true]
          exact ⟨by rw [hk]; exact lows_keys _, rs.lowOf⟩
        | ins cn ns vs => obtain ⟨_, _, ys, _, _, _, rs⟩ := r0; exact rs.lowOf
        | dead => rfl
        | lck ks vs =>
          obtain ⟨od, kvs, _, hk, rs⟩ := r0
          simp only [lowO, Bool.and_eq_true]
          exact ⟨by rw [hk]; exact lows_keys _, rs.lowOf⟩
      · rw [ho] at e
        rw [rm.len]; exact e
    cases o with
    | lst xs => obtain ⟨ys, hy, rs⟩ := ro; exact ⟨ys, hy, RVs.cut (Und.pre st.pre) rs hlo⟩
    | dct ep ks vs =>
      obtain ⟨kvs, hy, hk, rs⟩ := ro
      simp only [lowO, Bool.and_eq_true] at hlo
      exact ⟨kvs, hy, hk, RVs.cut (Und.pre st.pre) rs hlo.2⟩
    | ins cn ns vs => obtain ⟨C, dx, ys, hc, hy, hl', rs⟩ := ro; exact ⟨C, dx, ys, hc, hy, hl', RVs.cut (Und.pre st.pre) rs hlo⟩
    | dead => exact ro
    | lck ks vs =>
      obtain ⟨od, kvs, hy, hk, rs⟩ := ro
      simp only [lowO, Bool.and_eq_true] at hlo
      exact ⟨od, kvs, hy, hk, RVs.cut (Und.pre st.pre) rs hlo.2⟩
theorem OkR.finR {c : Cf} {w : Value → Option Addr → Hp → Prop} {β β1 : List Addr} {M : Mem} {H H1 : Hp} {r : Res MV} {Q : VK} (rm : RelM c.G β M H) (st : Step c.G β H β1 H1) (h : OkR c w β H (finR M.length M r) (KQ c Q)) : OkR c w β1 H1 r (KQ c Q) := by
  cases r with
  | ok v M' =>
    intro β' H' st' rm' x rx
    simp only [Mi.finR] at h
    split at h
    · rename_i lo
      obtain ⟨st2, rm2⟩ := region rm (st.trans st') rm' lo
      cases hf : Mi.frz M.length M' v with
      | none => rw [hf] at h; exact h.elim
      | some w =>
        rw [hf] at h
        refine h β H' st2 rm2 x (RV.frz (Und.pre (st.trans st').pre) (frzR_ok (st.trans st').pre rm' DEEP) rx ?_)
        rw [rm.len]; exact hf
    · exact h.elim
  | ex cn ns vs M' =>
    intro β' H' C dx xs st' rm' hc hx rxs
    simp only [Mi.finR] at h
    split at h
    · rename_i lo
      obtain ⟨st2, rm2⟩ := region rm (st.trans st') rm' lo
      cases hf : Mi.frzs M.length M' vs with
      | none => rw [hf] at h; exact h.elim
      | some ws =>
        rw [hf] at h
        refine h β H' C dx xs st2 rm2 hc ⟨hx.1, (Und.pre (st.trans st').pre).sub _ hx.2.1, hx.2.2⟩ (RVs.frz (Und.pre (st.trans st').pre) (frzR_ok (st.trans st').pre rm' DEEP) rxs ?_)
        rw [rm.len]; exact hf
    · exact h.elim
  | err => exact h

/-- a region's end where the new object that is returned stays mutable -/
theorem keep_rel {G : Wd} {β β' : List Addr} {M M' : Mem} {H H' : Hp} (rm : RelM G β M H) (st : Step G β H β' H') (rm' : RelM G β' M' H') (lo : lowM M.length M M' = true) {a : Nat} {p : Addr} (ha : β.length ≤ a) (hp : β'[a]? = some p) {o2 : MO} (ro : RO G (β ++ [p]) H' o2 p) : Step G β H (β ++ [p]) H' ∧ RelM G (β ++ [p]) (M'.take M.length ++ [o2]) H' := by
  obtain ⟨st2, rm2⟩ := region rm st rm' lo
  have po := new_out st.pre rm' ha hp
  have pm : p ∈ β' := List.mem_iff_getElem?.mpr ⟨a, hp⟩
  have hl : β.length = (M'.take M.length).length := rm2.len
  refine ⟨⟨List.prefix_append _ _, fun b hb nb => ?_, st.keepL, st.keepH, st.keepF⟩, ?_, ?_, fun i q o hi ho => ?_, ?_, rm'.hid⟩
  · rcases List.mem_append.mp hb with m | m
    · exact (nb m).elim
    · cases List.mem_singleton.mp m
      exact st.new p pm nb
  · rw [List.nodup_append]
    refine ⟨rm.nd, by simp, ?_⟩
    intro x hx y hy e
    subst e
    cases List.mem_singleton.mp hy
    exact po.1 hx
  · simp only [List.length_append, List.length_singleton]
    rw [hl]
  · by_cases c : i < β.length
    · rw [List.getElem?_append_left c] at hi
      rw [List.getElem?_append_left (hl ▸ c)] at ho
      have r := rm2.obj i q o hi ho
      -- what is asked of β is asked of β' too; p is new there
      have hlM : i < M.length := rm.len ▸ c
      have ho' : M'[i]? = some o := by rw [List.getElem?_take_of_lt hlM] at ho; exact ho
      have r' := rm'.obj i q o (st.at hi) ho'
      have hlow := List.all_eq_true.mp lo i (List.mem_range.mpr hlM)
      have hlo : lowO β.length o = true := by
        simp only [Bool.or_eq_true, decide_eq_true_eq] at hlow
        rcases hlow.symm with e | e
        · rw [ho'] at e
          have r0 := rm.obj i q o hi e.symm
          cases o with
          | lst xs => obtain ⟨ys, _, rs⟩ := r0; exact rs.lowOf
          | dct ep ks vs =>
            obtain ⟨kvs, _, hk, rs⟩ := r0
            simp only [lowO, Bool.and_eq_true]
            exact ⟨by rw [hk]; exact lows_keys _, rs.lowOf⟩
          | ins cn ns vs => obtain ⟨_, _, ys, _, _, _, rs⟩ := r0; exact rs.lowOf
          | dead => rfl
          | lck ks vs =>
            obtain ⟨od, kvs, _, hk, rs⟩ := r0
            simp only [lowO, Bool.and_eq_true]
            exact ⟨by rw [hk]; exact lows_keys _, rs.lowOf⟩
        · rw [ho'] at e
          rw [rm.len]; exact e
      have u : Und G β.length (β ++ [p]) β' := ⟨fun q oq => ⟨fun m => by
        rcases List.mem_append.mp m with m | m
        · exact oq.1 (st.pre.subset m)
        · cases List.mem_singleton.mp m; exact oq.1 pm, oq.2⟩, fun i hi => by rw [List.getElem?_append_left hi]; exact (pre_at st.pre hi).symm⟩
      cases o with
      | lst xs => obtain ⟨ys, hy, rs⟩ := r'; exact ⟨ys, hy, RVs.cut u rs hlo⟩
      | dct ep ks vs =>
        obtain ⟨kvs, hy, hk, rs⟩ := r'
        simp only [lowO, Bool.and_eq_true] at hlo
        exact ⟨kvs, hy, hk, RVs.cut u rs hlo.2⟩
      | ins cn ns vs => obtain ⟨C, dx, ys, hc, hy, hl', rs⟩ := r'; exact ⟨C, dx, ys, hc, hy, hl', RVs.cut u rs hlo⟩
      | dead => exact r'
      | lck ks vs =>
        obtain ⟨od, kvs, hy, hk, rs⟩ := r'
        simp only [lowO, Bool.and_eq_true] at hlo
        exact ⟨od, kvs, hy, hk, RVs.cut u rs hlo.2⟩
    · have hl2 := (List.getElem?_eq_some_iff.mp hi).1
      have : i = β.length := by simp at hl2; omega
      subst this
      have e1 : p = q := by simpa using hi
      have e2 : o2 = o := by
        rw [List.getElem?_append_right (by omega)] at ho
        rw [hl] at ho
        simpa using ho
      subst e1; subst e2; exact ro
  · intro b hb
    rcases List.mem_append.mp hb with m | m
    · exact rm.dis b m
    · cases List.mem_singleton.mp m; exact po.2
theorem keep_frz {G : Wd} {β β' : List Addr} {M' : Mem} {H' : Hp} (pr : β <+: β') (rm' : RelM G β' M' H') {a : Nat} {p : Addr} (ha : β.length ≤ a) (hp : β'[a]? = some p) {xs ys : List MV} {zs : List V} (r : RVs G β' H' xs zs) (h : frzs β.length (M'.set a .dead) xs = some ys) : RVs G (β ++ [p]) H' ys zs := by
  have pm : p ∈ β' := List.mem_iff_getElem?.mpr ⟨a, hp⟩
  have u : Und G β.length (β ++ [p]) β' := ⟨fun q oq => ⟨fun m => by
    rcases List.mem_append.mp m with m | m
    · exact oq.1 (pr.subset m)
    · cases List.mem_singleton.mp m; exact oq.1 pm, oq.2⟩, fun i hi => by rw [List.getElem?_append_left hi]; exact (pre_at pr hi).symm⟩
  refine RVs.frz u (frzR_okU u (fun i q o hl hi ho nd => ?_) DEEP) r h
  have ne : i ≠ a := by
    intro e; subst e
    have hlt : i < M'.length := by
      have := (List.getElem?_eq_some_iff.mp hi).1
      rw [rm'.len] at this; exact this
    rw [List.getElem?_set_self hlt] at ho
    cases ho; exact nd rfl
  rw [List.getElem?_set_ne (Ne.symm ne)] at ho
  refine ⟨rm'.obj i q o hi ho, ⟨fun m => ?_, (new_out pr rm' hl hi).2⟩⟩
  rcases List.mem_append.mp m with m | m
  · exact (new_out pr rm' hl hi).1 m
  · cases List.mem_singleton.mp m
    have h1 := List.getElem?_eq_some_iff.mp hi
    have h2 := List.getElem?_eq_some_iff.mp hp
    have hp' := List.pairwise_iff_getElem.mp rm'.nd
    rcases Nat.lt_or_gt_of_ne ne with l | l
    · exact hp' i a h1.1 h2.1 l (h1.2.trans h2.2.symm)
    · exact hp' a i h2.1 h1.1 l (h2.2.trans h1.2.symm)
theorem OkR.finK {c : Cf} {w : Value → Option Addr → Hp → Prop} {β β1 : List Addr} {M : Mem} {H H1 : Hp} {r : Res MV} {Q : VK} (rm : RelM c.G β M H) (st : Step c.G β H β1 H1) (h : OkR c w β H (Mi.finK M.length M r) (KQ c Q)) : OkR c w β1 H1 r (KQ c Q) := by
  unfold Mi.finK at h
  split at h
  · rename_i a M'
    split at h
    · rename_i ha
      split at h
      · rename_i lo
        intro β' H' st' rm' x rx
        obtain ⟨p, hp, rfl⟩ := rx
        have hab : β.length ≤ a := by rw [rm.len]; exact ha
        obtain ⟨o, ho, ro⟩ := rm'.get hp
        have fin : ∀ o2, RO c.G (β ++ [p]) H' o2 p → OkR c w β H (Res.ok (.ref M.length) (M'.take M.length ++ [o2])) (KQ c Q) → Q (.ref p) H' := by
          intro o2 ro2 h
          obtain ⟨st2, rm2⟩ := keep_rel rm (st.trans st') rm' lo hab hp ro2
          exact h (β ++ [p]) H' st2 rm2 (.ref p) ⟨p, by rw [← rm.len]; simp, rfl⟩
        rw [ho] at h
        cases o with
        | lst xs =>
          obtain ⟨ys, hy, rs⟩ := ro
          dsimp only at h
          split at h
          · rename_i zs hz
            exact fin (.lst zs) ⟨ys, hy, keep_frz (st.trans st').pre rm' hab hp rs (by rw [rm.len]; exact hz)⟩ h
          · exact h.elim
        | dct ep ks vs =>
          obtain ⟨kvs, hy, hk, rs⟩ := ro
          dsimp only at h
          split at h
          · rename_i zs hz
            exact fin (.dct ep ks zs) ⟨kvs, hy, hk, keep_frz (st.trans st').pre rm' hab hp rs (by rw [rm.len]; exact hz)⟩ h
          · exact h.elim
        | _ => exact h.elim
      · exact h.elim
    · exact OkR.finR rm st h
  · exact OkR.finR rm st h
/-! ### an instance made -/
theorem tE_new {c : Cf} {T : Tb} {N : List Str} {sc : Scope} {wx : WX} {X : Cx} (cx : Ctx c T N sc wx X) {cn f : Str} {e : Expr} {es : List Expr} {p pos : Pos} {ms : List ME} {d : CDef} (hd : clsOf c.P cn = some d) (hf : d.meths.lookup ("__init__" : Str) = some f) (hg : Gl X cn) (hn : okN cn = true) (hs : isStar e = false) (hss : es.all (fun e => !isStar e) = true) (ha : PA X (e :: es) (tA c wx ms)) : PE X (.Call (.Name cn p) (e :: es) [] pos) (tE c wx (.new cn ms)) := by
  obtain ⟨C, ci⟩ := cx.stat.cls cn d hd
  have hnm : d.nm = cn := by simpa using List.find?_some hd
  subst hnm
  obtain ⟨fa, fd, hfa, hmk⟩ := ci.make_ f hf
  obtain ⟨d', hd', F, hb, hk⟩ := fnok_at cx hfa
  refine PE.imp (pe_makeSD (E := fun σ cl d H => wx cl d σ H) (cx.K ▸ hmk) F (cx.room.mono (by omega)) cx.quiet hg (cx.mg ▸ ci.mg) hb cx.pa ha (okN_d hn) (notStar hs) (starsNil hss)) fun σ H Q => ?_
  rintro ⟨β, M, ρ, rm, rs, ok⟩
  rw [evalE] at ok
  refine ⟨β, M, ρ, rm, rs, ok.bind.imp fun β1 M1 vs H1 st1 rm1 k xs rxs x dx hx hdx hne => ?_⟩
  have hx' : (upd H1 dx (.own x)) x = none := by rw [upd_ne (Ne.symm hne)]; exact hx
  have st2 := (Step.fresh (G := c.G) (β := β1) (.own x) hdx).trans (Step.box (.ins C dx []) hx')
  have rm2 : RelM c.G (β1 ++ [x]) (M1 ++ [.ins d.nm [] []]) (upd (upd H1 dx (.own x)) x (.ins C dx [])) := (rm1.new (.own x) hdx).box _ _ hx' ⟨C, dx, [], ci.at_, upd_same, rfl, rfl⟩
  refine ⟨β1 ++ [x], M1 ++ [.ins d.nm [] []], .ref M1.length :: vs, rm2, ⟨_, _, rfl, ⟨x, by rw [← rm1.len]; simp, rfl⟩, RVs.step st2 _ _ rxs⟩, ?_⟩
  unfold make at k
  rw [hd] at k
  simp only [hf] at k
  have fin : OkR c (fun cl dd => wx cl dd σ) (β1 ++ [x]) (upd (upd H1 dx (.own x)) x (.ins C dx [])) ((c.cal f (.ref M1.length :: vs) (M1 ++ [.ins d.nm [] []])).bind fun v M' => if v = .non then Res.ok (.ref M1.length) M' else .err) (KQ c Q) := by
    split at k
    · exact OkR.finR rm1 st2 k
    · exact OkR.from k st2
  refine fin.bind.imp fun β3 M3 v H3 st3 rm3 k3 z rz => ?_
  split at k3
  · rename_i hv
    subst hv
    refine ⟨rz, k3 β3 H3 Step.rfl' rm3 _ ⟨x, ?_, rfl⟩⟩
    refine st3.at ?_
    rw [← rm1.len]; simp
  · exact k3.elim
end Mi
/-! Mini, part Jb: an expression as a region; a dict locked while an expression runs; len of own instances; repr. -/
set_option autoImplicit false
set_option linter.all false
namespace Mi
open PySem L2

mutual
/-- only what is outside is asked -/
theorem RV.sub {G : Wd} {β : List Addr} {H H' : Hp} (h : ∀ q o, G.out β q → H q = some o → H' q = some o) : ∀ {v : MV} {x : V}, RV G β H v x → RV G β H' v x
  | .non, _, r => r
  | .bl _, _, r => r
  | .int _, _, r => r
  | .str _, _, r => r
  | .tup xs, x, ⟨a, ys, e, f, r⟩ => ⟨a, ys, e, f.elim (fun f => .inl ⟨f.1, h _ _ f.1 f.2⟩) .inr, RVs.sub h r⟩
  | .fls xs, x, ⟨a, ys, e, f, r⟩ => ⟨a, ys, e, ⟨f.1, h _ _ f.1 f.2⟩, RVs.sub h r⟩
  | .scr xs, x, ⟨a, ys, e, f, r⟩ => ⟨a, ys, e, f.elim (fun f => .inl ⟨f.1, f.2.elim (fun z => .inl (h _ _ f.1 z)) fun ⟨o, z⟩ => .inr ⟨o, h _ _ f.1 z⟩⟩) .inr, RVs.sub h r⟩
  | .fdc ks vs, x, ⟨a, kvs, e, n, rd, k, r⟩ => ⟨a, kvs, e, n, rd.elim (fun z => .inl (h _ _ n z)) (fun ⟨o, z⟩ => .inr ⟨o, h _ _ n z⟩), k, RVs.sub h r⟩
  | .obj c ns vs, x, ⟨a, C, dx, ys, e, n, hc, hi, l, r⟩ => ⟨a, C, dx, ys, e, n, hc, h _ _ n hi, l, RVs.sub h r⟩
  | .exn c ns vs, x, ⟨a, C, dx, ys, fs, e, n, n2, hc, hi, hd, lk, l, r⟩ => ⟨a, C, dx, ys, fs, e, n, n2, hc, h _ _ n hi, h _ _ n2 hd, lk, l, RVs.sub h r⟩
  | .ref i, x, r => r
theorem RVs.sub {G : Wd} {β : List Addr} {H H' : Hp} (h : ∀ q o, G.out β q → H q = some o → H' q = some o) : ∀ {vs : List MV} {xs : List V}, RVs G β H vs xs → RVs G β H' vs xs
  | [], _, r => r
  | v :: vs, xs, ⟨y, t, e, r, rs⟩ => ⟨y, t, e, RV.sub h r, RVs.sub h rs⟩
end
theorem RO.sub {G : Wd} {β : List Addr} {H H' : Hp} (h : ∀ q o, G.out β q → H q = Option.some o → H' q = Option.some o) {o : MO} {a : Addr} (e : H' a = H a) (r : RO G β H o a) : RO G β H' o a := by
  cases o with
  | lst xs => obtain ⟨ys, hy, rs⟩ := r; exact ⟨ys, e.trans hy, RVs.sub h rs⟩
  | dct ep ks vs => obtain ⟨ys, hy, k, rs⟩ := r; exact ⟨ys, e.trans hy, k, RVs.sub h rs⟩
  | ins c ns vs => obtain ⟨C, dx, ys, hc, hy, l, rs⟩ := r; exact ⟨C, dx, ys, hc, e.trans hy, l, RVs.sub h rs⟩
  | dead => exact fun z => r (e ▸ z)
  | lck ks vs => obtain ⟨od, ys, hy, k, rs⟩ := r; exact ⟨od, ys, e.trans hy, k, RVs.sub h rs⟩
theorem tE_frzE {c : Cf} {wx : WX} {X : Cx} {e : Expr} {m : ME} (h : PE X e (tE c wx m)) : PE X e (tE c wx (.frzE m)) := by
  refine PE.imp h fun σ H Q => ?_
  rintro ⟨β, M, ρ, rm, rs, ok⟩
  rw [evalE] at ok
  exact ⟨β, M, ρ, rm, rs, OkR.finR rm Step.rfl' ok⟩
theorem tE_lock {c : Cf} {wx : WX} {X : Cx} {e : Expr} {i : Nat} {m : ME} (h : PE X e (tE c wx m)) : PE X e (tE c wx (.lock i m)) := by
  refine PE.dyn fun σ H Q => ?_
  rintro ⟨β, M, ρ, rm, rs, ok⟩
  rw [evalE] at ok
  have plain : OkR c (fun cl d => wx cl d σ) β H (evalE c.P c.cal m ρ M) (KQ c Q) → ∃ t', PE X e t' ∧ t' σ H Q := fun ok => ⟨_, h, β, M, ρ, rm, rs, ok⟩
  split at ok
  · rename_i a hi
    split at ok
    · rename_i ep ks vs ho
      obtain ⟨d, hd, ro⟩ := rm.to ho
      obtain ⟨kvs, hy, hk, rvs⟩ := ro
      have nf : ∀ od u, H d ≠ some (.frz od u) := fun od u z => by rw [hy] at z; cases z
      refine ⟨_, pe_lock h, d, .dK kvs, hy, True.intro, fun od => ?_⟩
      have st := Step.wr rm hd (.frz od (.dK kvs)) nf
      have rm1 := RelM.wr rm hd (.frz od (.dK kvs)) nf (.lck ks vs) ⟨od, kvs, upd_same, hk, RVs.step st _ _ rvs⟩
      refine ⟨β, M.set a (.lck ks vs), ρ, rm1, rs.step st, ?_⟩
      split at ok
      · rename_i v M1 hev
        rw [hev]
        intro β1 H1 st1 rm2 x rx
        split at ok
        · rename_i hM1
          have hd1 : H1 d = some (.frz od (.dK kvs)) := st1.keepF d od _ upd_same
          refine ⟨hd1, ?_⟩
          have hd' : β1[a]? = some d := st1.at hd
          have dm : d ∈ β := List.mem_iff_getElem?.mpr ⟨a, hd⟩
          have dm1 : d ∈ β1 := st1.pre.subset dm
          have dh : d ∉ c.G.hid := rm.dis d dm
          -- the way back, for values
          have back : ∀ {q : Addr} {o : HO}, c.G.out β1 q → H1 q = some o → (upd H1 d (.dK kvs)) q = some o := fun {q o} oq hq => by
            rw [upd_ne]; exact hq
            intro z; subst z; exact oq.1 dm1
          have stp : Step c.G β H β1 (upd H1 d (.dK kvs)) := by
            refine ⟨st1.pre, fun b hb nb => ?_, fun q o hq oq => ?_, fun q o hh hq => ?_, fun q od' u hq => ?_⟩
            · have := st1.new b hb nb
              by_cases e : b = d
              · subst e; exact (nb dm).elim
              · rw [upd_ne e] at this; exact this
            · have ne : q ≠ d := fun e => by subst e; exact oq.1 dm
              obtain ⟨o', h', l⟩ := st1.keepL q o (by rw [upd_ne ne]; exact hq) oq
              exact ⟨o', by rw [upd_ne ne]; exact h', l⟩
            · have ne : q ≠ d := fun e => by subst e; exact dh hh
              rw [upd_ne ne]
              exact st1.keepH q o hh (by rw [upd_ne ne]; exact hq)
            · have ne : q ≠ d := fun e => by subst e; exact nf _ _ hq
              rw [upd_ne ne]
              exact st1.keepF q od' u (by rw [upd_ne ne]; exact hq)
          have rmp : RelM c.G β1 (M1.set a (.dct ep ks vs)) (upd H1 d (.dK kvs)) := by
            refine ⟨rm2.nd, by rw [rm2.len, List.length_set], fun j b u hj hu => ?_, rm2.dis, fun b hb => upd_some (rm2.hid b hb)⟩
            by_cases cj : a = j
            · subst cj
              rw [hd'] at hj; cases hj
              have hl := (List.getElem?_eq_some_iff.mp hd').1
              rw [rm2.len] at hl
              rw [List.getElem?_set_self hl] at hu
              cases hu
              obtain ⟨od2, kvs2, hy2, hk2, rs2⟩ := rm2.obj a d _ hd' hM1
              rw [hd1] at hy2; cases hy2
              exact ⟨kvs, upd_same, hk2, RVs.sub (fun q o oq hq => back oq hq) rs2⟩
            · rw [List.getElem?_set_ne cj] at hu
              have ne : b ≠ d := by
                intro z; subst z
                have h1 := List.getElem?_eq_some_iff.mp hd'
                have h2 := List.getElem?_eq_some_iff.mp hj
                have hp := List.pairwise_iff_getElem.mp rm2.nd
                rcases Nat.lt_or_gt_of_ne cj with l | l
                · exact hp a j h1.1 h2.1 l (h1.2.trans h2.2.symm)
                · exact hp j a h2.1 h1.1 l (h2.2.trans h1.2.symm)
              exact RO.sub (fun q o oq hq => back oq hq) (upd_ne ne) (rm2.obj j b u hj hu)
          exact ok β1 _ stp rmp x (RV.sub (fun q o oq hq => back oq hq) rx)
        · exact ok.elim
      · exact ok.elim
    · exact plain ok
  · exact plain ok
/-- len(o), o an own instance -/
theorem tE_lenO {c : Cf} {T : Tb} {N : List Str} {sc : Scope} {wx : WX} {X : Cx} (cx : Ctx c T N sc wx X) {e : Expr} {p pos : Pos} {m : ME} (hf : ("len" : Str) ∈ T.frees) (hg : Gl X "len") (hs : isStar e = false) (he : PE X e (tE c wx m)) : PE X (.Call (.Name "len" p) [e] [] pos) (tE c wx (.lenO m)) := by
  refine PE.dyn fun σ H Q => ?_
  rintro ⟨β, M, ρ, rm, rs, ok⟩
  rw [evalE] at ok
  have hN := okN_n (x := "len") (by decide +kernel)
  have hD := okN_d (x := "len") (by decide +kernel)
  have go : ∀ {r : List V → Hp → VK → Prop}, CallR X (.builtin "len") r → PE X (.Call (.Name "len" p) [e] [] pos) (fun σ H Q => tE c wx m σ H fun x H1 => r [x] H1 Q) := fun hr => by
    refine PE.imp (pe_callB hr hg (cx.mg ▸ cx.stat.free _ hf) (by decide +kernel) (pa_cons he pa_nil (notStar hs)) hN hD (notStar hs) rfl) fun σ H Q h => ?_
    exact h
  cases ev : evalE c.P c.cal m ρ M with
  | err => rw [ev] at ok; exact ok.elim
  | ex cn ns vs M' =>
    rw [ev] at ok
    refine ⟨_, go call_len_str, β, M, ρ, rm, rs, by rw [ev]; exact ok⟩
  | ok v M1 =>
    rw [ev] at ok
    simp only [Res.bind] at ok
    cases hsp : special c.P M1 v "__len__" with
    | none => rw [hsp] at ok; exact ok.elim
    | some f =>
      rw [hsp] at ok
      have hf' := hsp
      unfold special at hf'
      split at hf'
      · rename_i cn ns vs hv
        obtain ⟨d, hd, hl⟩ := Option.bind_eq_some_iff.mp hf'
        obtain ⟨C, ci⟩ := cx.stat.cls cn d hd
        obtain ⟨fa, fd, hfa, hm⟩ := ci.meth _ _ hl
        have hnm : d.nm = cn := by simpa using List.find?_some hd
        refine ⟨_, go (call_lenOwn (cx.K ▸ hm.at_) (cx.K ▸ hm.fn) (fn_at cx hfa) (cx.room.mono (by omega)) cx.quiet), β, M, ρ, rm, rs, ?_⟩
        rw [ev]
        intro β1 H1 st1 rm1 x rx
        obtain ⟨a, C1, dx, ys, rfl, hc1, hi1, hl1, r1⟩ := fields_at rm1 rx hv
        have hcc := ci.at_
        rw [hnm, hc1] at hcc; cases hcc
        refine ⟨a, dx, _, rfl, hi1, β1, M1, [v], rm1, ⟨_, _, rfl, rx, rfl⟩, ?_⟩
        have ok2 := OkR.noEx (w' := NoW) (OkR.from ok st1).bind
        refine ok2.imp fun β' M' z H' st rm' k x' rx' => ?_
        cases z with
        | int i =>
          dsimp only at k
          split at k
          · rename_i hi
            exact ⟨i, rx', hi.1, hi.2, k β' H' Step.rfl' rm' _ rfl⟩
          · exact k.elim
        | _ => exact k.elim
      · cases hf'
end Mi
/-! Mini, part K: built-in functions, subscripts, fields. -/
set_option autoImplicit false
set_option linter.all false
namespace Mi
open PySem L2

/-! ### sorting texts -/
theorem leS_iff (a b : Str) : leS a b = true ↔ ¬ b.cps.toList < a.cps.toList := by
  unfold leS; rw [PyProof.Rows.ltCps_eq]; simp
theorem leS_antisymm {a b : Str} (h : leS a b = true) (k : leS b a = true) : a = b := by
  rw [leS_iff] at h k
  have := List.le_antisymm (as := a.cps.toList) (bs := b.cps.toList) (by simpa using h) (by simpa using k)
  cases a; cases b
  simp only at this
  congr
  exact Array.toList_inj.mp this
theorem leS_trans (a b c : Str) (h : leS a b = true) (k : leS b c = true) : leS a c = true := by
  rw [leS_iff] at *
  have h' : a.cps.toList ≤ b.cps.toList := by simpa using h
  have k' : b.cps.toList ≤ c.cps.toList := by simpa using k
  have : a.cps.toList ≤ c.cps.toList := List.le_trans h' k'
  simpa using this
theorem leS_total (a b : Str) : (leS a b || leS b a) = true := by
  rw [Bool.or_eq_true, leS_iff, leS_iff]
  rcases List.le_total a.cps.toList b.cps.toList with h | h
  · left; simpa using h
  · right; simpa using h
theorem rising_pw : ∀ (p : Str) (l : List Str), PyProof.Rows.risingS p l = true → List.Pairwise (fun a b => leS a b = true) (p :: l)
  | p, [], _ => List.pairwise_singleton _ _
  | p, q :: r, h => by
    rw [PyProof.Rows.risingS.eq_2, Bool.and_eq_true] at h
    have ih := rising_pw q r h.2
    refine List.Pairwise.cons (fun b hb => ?_) ih
    rcases List.mem_cons.mp hb with rfl | hb
    · exact h.1
    · exact leS_trans p q b h.1 (List.rel_of_pairwise_cons ih hb)
theorem sorted_eq {ys zs : List Str} (p : ys.Perm zs) (s : PyProof.Rows.sortedS ys = true) : ys = zs.mergeSort leS := by
  have h1 : List.Pairwise (fun a b => leS a b = true) ys := by
    cases ys with
    | nil => exact .nil
    | cons a r => exact rising_pw a r s
  have h2 := List.pairwise_mergeSort leS_trans leS_total zs
  exact List.Perm.eq_of_pairwise (fun a b _ _ h k => leS_antisymm h k) h1 h2 (p.trans (List.mergeSort_perm zs leS).symm)
theorem strs_rv {G : Wd} {β : List Addr} {H : Hp} : ∀ {xs : List MV} {l : List Str} {ys : List V}, strsV xs = some l → RVs G β H xs ys → ys = l.map V.str
  | [], l, ys, h, r => by cases h; exact r
  | x :: r, l, ys, h, ⟨y, t, e, rx, rs⟩ => by
    cases x with
    | str s =>
      obtain ⟨l', hl, rfl⟩ := Option.map_eq_some_iff.mp h
      rw [e, show y = V.str s from rx, strs_rv hl rs]; rfl
    | _ => cases h
theorem strs_mk {G : Wd} {β : List Addr} {H : Hp} : ∀ (l : List Str), RVs G β H (l.map .str) (l.map V.str)
  | [] => rfl
  | s :: r => ⟨_, _, rfl, rfl, strs_mk r⟩
theorem bls_rv {G : Wd} {β : List Addr} {H : Hp} : ∀ {xs : List MV} {l : List Bool} {ys : List V}, blsV xs = some l → RVs G β H xs ys → ys = l.map V.bl
  | [], l, ys, h, r => by cases h; exact r
  | x :: r, l, ys, h, ⟨y, t, e, rx, rs⟩ => by
    cases x with
    | bl s =>
      obtain ⟨l', hl, rfl⟩ := Option.map_eq_some_iff.mp h
      rw [e, show y = V.bl s from rx, bls_rv hl rs]; rfl
    | _ => cases h
theorem ints_rv {G : Wd} {β : List Addr} {H : Hp} : ∀ {xs : List MV} {l : List Int} {ys : List V}, intsV xs = some l → RVs G β H xs ys → ys = l.map V.int
  | [], l, ys, h, r => by cases h; exact r
  | x :: r, l, ys, h, ⟨y, t, e, rx, rs⟩ => by
    cases x with
    | int s =>
      obtain ⟨l', hl, rfl⟩ := Option.map_eq_some_iff.mp h
      rw [e, show y = V.int s from rx, ints_rv hl rs]; rfl
    | _ => cases h

/-! ### built-in functions -/
/-- a new thing of what g gives -/
def rF (c : Cf) (g : Mem → List MV → Option MV) : List V → Hp → VK → Prop := fun xs H Q => ∃ β M vs z, RelM c.G β M H ∧ RVs c.G β H vs xs ∧ g M vs = some z ∧ ∀ p o, H p = none → FO c β H z o → Q (.ref p) (upd H p o)
theorem RVs.one {G : Wd} {β : List Addr} {H : Hp} {v : MV} {xs : List V} (r : RVs G β H [v] xs) : ∃ x, xs = [x] ∧ RV G β H v x := by
  obtain ⟨x, t, e, r, rs⟩ := r
  cases (show t = [] from rs)
  exact ⟨x, e, r⟩
theorem call_lenDR {X : Cx} : CallR X (.builtin "len") (fun xs H Q => ∃ (a : Addr) (kvs : List (L2.Key × V)), xs = [.ref a] ∧ Rd H a (.dK kvs) ∧ Q (.int kvs.length) H) := by
  intro pins s σ H xs us Q I r h
  obtain ⟨a, kvs, rfl, rd, q⟩ := h
  obtain ⟨u, rfl, ru⟩ := vals1 r
  cases (show u = .ref a from ru)
  exact d_len I rd fun t s' I' => ⟨.int kvs.length, H, I', ⟨t, rfl⟩, q⟩
theorem cr_len {c : Cf} {X : Cx} (hK : X.K = c.G.K) : CallR X (.builtin "len") (rN c biLen) := by
  refine CallR.dyn fun xs H Q => ?_
  rintro ⟨β, M, vs, z, rm, rs, hz, gv⟩
  unfold biLen at hz
  split at hz
  · obtain ⟨x, rfl, rv⟩ := rs.one
    split at hz
    · rename_i zs hv
      cases hz
      obtain ⟨a, ys, rfl, f, r⟩ := seq_at rm rv hv
      exact ⟨_, call_len_seq, a, ys, rfl, hK ▸ f, gv.now rm (by rw [r.len]; exact rfl)⟩
    · rename_i ks ws hv
      cases hz
      obtain ⟨a, kvs, rfl, rd, rfl, r⟩ := dict_at rm rv hv
      exact ⟨_, call_lenDR, a, kvs, rfl, rd, gv.now rm (by show _ = V.int _; simp)⟩
    · rename_i s hv
      split at hz
      · rename_i hl
        cases hz
        obtain ⟨rfl, rfl⟩ := text_at rm rv hv
        exact ⟨_, call_len_str, s, rfl, by rw [← line_eq]; exact hl, gv.now rm rfl⟩
      · cases hz
    · cases hz
  · cases hz
theorem cr_allM {c : Cf} {X : Cx} (hK : X.K = c.G.K) (hc : X.calm = true) : CallR X (.builtin "all") (rN c biAll) := by
  refine CallR.dyn fun xs H Q => ?_
  rintro ⟨β, M, vs, z, rm, rs, hz, gv⟩
  unfold biAll at hz
  split at hz
  · obtain ⟨x, rfl, rv⟩ := rs.one
    obtain ⟨l, hl, rfl⟩ := Option.map_eq_some_iff.mp hz
    obtain ⟨a, ys, rfl, f, r⟩ := rv
    exact ⟨_, cr_all hc, a, l, rfl, by rw [← bls_rv hl r]; exact .inl (.inl f.2), gv.now rm rfl⟩
  · cases hz
theorem cr_anyM {c : Cf} {X : Cx} (hK : X.K = c.G.K) (hc : X.calm = true) : CallR X (.builtin "any") (rN c biAny) := by
  refine CallR.dyn fun xs H Q => ?_
  rintro ⟨β, M, vs, z, rm, rs, hz, gv⟩
  unfold biAny at hz
  split at hz
  · obtain ⟨x, rfl, rv⟩ := rs.one
    obtain ⟨l, hl, rfl⟩ := Option.map_eq_some_iff.mp hz
    obtain ⟨a, ys, rfl, f, r⟩ := rv
    exact ⟨_, cr_any hc, a, l, rfl, by rw [← bls_rv hl r]; exact .inl (.inl f.2), gv.now rm rfl⟩
  · cases hz
theorem cr_sumM {c : Cf} {X : Cx} (hK : X.K = c.G.K) (hc : X.calm = true) : CallR X (.builtin "sum") (rN c biSum) := by
  refine CallR.dyn fun xs H Q => ?_
  rintro ⟨β, M, vs, z, rm, rs, hz, gv⟩
  unfold biSum at hz
  split at hz
  · obtain ⟨x, rfl, rv⟩ := rs.one
    obtain ⟨l, hl, rfl⟩ := Option.map_eq_some_iff.mp hz
    obtain ⟨a, ys, rfl, f, r⟩ := rv
    exact ⟨_, cr_sum hc, a, l, rfl, by rw [← ints_rv hl r]; exact .inl (.inl f.2), gv.now rm rfl⟩
  · cases hz
theorem sortV_eq {xs : List MV} {z : List MV} (h : sortV xs = some z) : ∃ l, strsV xs = some l ∧ l.length < 64 ∧ z = (l.mergeSort leS).map .str := by
  unfold sortV at h
  split at h
  · rename_i l hl
    split at h
    · rename_i h64
      cases h; exact ⟨l, hl, h64, rfl⟩
    · cases h
  · cases h
theorem keys_strs : ∀ {kvs : List (L2.Key × V)} {l : List Str}, strsV (kvs.map fun p => kM p.1) = some l → kvs.map (·.1) = l.map Sum.inr
  | [], l, h => by cases h; rfl
  | p :: r, l, h => by
    obtain ⟨k, v⟩ := p
    cases k with
    | inl i => cases h
    | inr s =>
      obtain ⟨l', hl, rfl⟩ := Option.map_eq_some_iff.mp h
      simp [keys_strs hl]
theorem cr_sortedM {c : Cf} {X : Cx} (hK : X.K = c.G.K) (hc : X.calm = true) : CallR X (.builtin "sorted") (rF c biSorted) := by
  refine CallR.dyn fun xs H Q => ?_
  rintro ⟨β, M, vs, z, rm, rs, hz, gv⟩
  unfold biSorted at hz
  split at hz
  · obtain ⟨x, rfl, rv⟩ := rs.one
    split at hz
    · rename_i zs hv
      obtain ⟨a, ys, rfl, f, r⟩ := lst_at rm rv hv
      obtain ⟨w, hw, rfl⟩ := Option.map_eq_some_iff.mp hz
      obtain ⟨l, hl, h64, rfl⟩ := sortV_eq hw
      refine ⟨_, cr_sortedS, a, l, rfl, by rw [← strs_rv hl r]; exact .inl (.inl f), h64, fun ys p hp hs hn => ?_⟩
      rw [sorted_eq hp hs]
      exact gv p _ hn ⟨_, rfl, strs_mk _⟩
    · split at hz
      · rename_i ks ws hv
        obtain ⟨a, kvs, rfl, rd, rfl, r⟩ := dict_at rm rv hv
        obtain ⟨w, hw, rfl⟩ := Option.map_eq_some_iff.mp hz
        obtain ⟨l, hl, h64, rfl⟩ := sortV_eq hw
        refine ⟨_, call_sortedD hc, a, kvs, l, rfl, rd, keys_strs hl, h64, fun ys p hp hs hn => ?_⟩
        rw [sorted_eq hp hs]
        exact gv p _ hn ⟨_, rfl, strs_mk _⟩
      · cases hz
  · cases hz
theorem keys_mk {G : Wd} {β : List Addr} {H : Hp} : ∀ (kvs : List (L2.Key × V)), RVs G β H (kvs.map fun p => kM p.1) (kvs.map fun kv => L2.kV kv.1)
  | [] => rfl
  | p :: r => ⟨_, _, rfl, RV.ofK p.1, keys_mk r⟩
theorem cr_listM {c : Cf} {X : Cx} (hK : X.K = c.G.K) (hc : X.calm = true) : CallR X (.type "list") (rF c biList) := by
  refine CallR.dyn fun xs H Q => ?_
  rintro ⟨β, M, vs, z, rm, rs, hz, gv⟩
  unfold biList at hz
  split at hz
  · obtain ⟨x, rfl, rv⟩ := rs.one
    split at hz
    · rename_i zs hv
      obtain ⟨a, ys, rfl, f, r⟩ := seq_at rm rv hv
      cases hz
      exact ⟨_, call_list_of, a, ys, rfl, hK ▸ f, fun p hp => gv p _ hp ⟨ys, rfl, r⟩⟩
    · rename_i ks ws hv
      obtain ⟨a, kvs, rfl, rd, rfl, r⟩ := dict_at rm rv hv
      cases hz
      exact ⟨_, call_listD hc, a, kvs, rfl, rd, fun p hp => gv p _ hp ⟨_, rfl, keys_mk kvs⟩⟩
    · cases hz
  · cases hz
/-- putK as Mini does it -/
theorem dupd_rel {G : Wd} {β : List Addr} {H : Hp} {k : L2.Key} {w : MV} {x : V} (rx : RV G β H w x) : ∀ {kvs : List (L2.Key × V)} {vs : List MV}, RVs G β H vs (kvs.map (·.2)) →
    RVs G β H (dupd (kvs.map fun p => kM p.1) vs (kM k) w) ((kvs.map fun kv => if kv.1 = k then (kv.1, x) else kv).map (·.2))
  | [], vs, r => by
    have : vs = [] := by
      cases vs with
      | nil => rfl
      | cons _ _ => obtain ⟨_, _, e, _⟩ := r; cases e
    subst this; exact rfl
  | p :: kvs, vs, r => by
    cases vs with
    | nil => cases (show _ = _ from r)
    | cons v vs =>
      obtain ⟨y, t, e, r0, rs⟩ := r
      cases e
      by_cases c : p.1 = k
      · refine ⟨x, _, by simp only [List.map_cons, c, if_true], ?_, dupd_rel rx rs⟩
        simp only [c, if_true]; exact rx
      · have c' : kM p.1 ≠ kM k := fun z => c (kM_inj z)
        refine ⟨p.2, _, by simp only [List.map_cons, c, if_false], ?_, dupd_rel rx rs⟩
        simp only [c', if_false]; exact r0
theorem putK_rel {G : Wd} {β : List Addr} {H : Hp} {k : L2.Key} {w : MV} {x : V} (rx : RV G β H w x) {kvs : List (L2.Key × V)} {vs : List MV} (r : RVs G β H vs (kvs.map (·.2))) :
    (dput1 (kvs.map fun p => kM p.1) vs (kM k) w).1 = (putK kvs k x).map (fun p => kM p.1) ∧ RVs G β H (dput1 (kvs.map fun p => kM p.1) vs (kM k) w).2 ((putK kvs k x).map (·.2)) := by
  have h := dget_rel k r
  unfold dput1
  cases hd : dfind (kvs.map fun p => kM p.1) (kM k) with
  | none =>
    rw [hd] at h
    have : putK kvs k x = kvs ++ [(k, x)] := by unfold putK; rw [h.2]; rfl
    rw [this]
    refine ⟨by simp, ?_⟩
    simp only [Option.isSome_none, Bool.false_eq_true, if_false]
    rw [List.map_append]
    exact r.app ⟨x, [], rfl, rx, rfl⟩
  | some i =>
    rw [hd] at h
    obtain ⟨_, _, _, _, _, ha⟩ := h
    have : putK kvs k x = kvs.map fun kv => if kv.1 = k then (kv.1, x) else kv := by unfold putK; rw [ha]; rfl
    rw [this]
    refine ⟨?_, ?_⟩
    · simp only [Option.isSome_some, if_true]
      rw [List.map_map]
      apply List.map_congr_left
      intro p hp
      simp only [Function.comp]
      split <;> rfl
    · simp only [Option.isSome_some, if_true]
      exact dupd_rel rx r
/-- dict displays, dict of pairs: one entry after another -/
theorem dputs_isK : ∀ {ks vs as bs : List MV} {q : List MV × List MV}, dputs as bs ks vs = some q → (∀ k ∈ ks, isK k = true)
  | [], _, _, _, _, _ => by simp
  | k :: ks, [], _, _, _, h => by cases h
  | k :: ks, v :: vs, as, bs, q, h => by
    simp only [dputs] at h
    split at h
    · rename_i a b hd
      unfold dput at hd
      split at hd
      · rename_i hk
        intro x hx
        rcases List.mem_cons.mp hx with rfl | hx
        · exact hk
        · exact dputs_isK h x hx
      · cases hd
    · cases h
theorem kvs_of {G : Wd} {β : List Addr} {H : Hp} : ∀ {uv : List (V × V)} {ks vs : List MV}, (∀ k ∈ ks, isK k = true) → RVs G β H ks (uv.map (·.1)) → RVs G β H vs (uv.map (·.2)) → ∃ kvs : List (L2.Key × V), uv = kvs.map (fun kv => (L2.kV kv.1, kv.2)) ∧ ks = kvs.map (fun p => kM p.1) ∧ RVs G β H vs (kvs.map (·.2))
  | [], ks, vs, hk, r1, r2 => by
    have : ks = [] := by
      cases ks with
      | nil => rfl
      | cons _ _ => obtain ⟨_, _, e, _⟩ := r1; cases e
    subst this
    exact ⟨[], rfl, rfl, r2⟩
  | (x, y) :: uv, ks, vs, hk, r1, r2 => by
    cases ks with
    | nil => cases (show _ = _ from r1)
    | cons k ks =>
      cases vs with
      | nil => cases (show _ = _ from r2)
      | cons v vs =>
        obtain ⟨x', t1, e1, rx, r1⟩ := r1
        obtain ⟨y', t2, e2, ry, r2⟩ := r2
        cases e1; cases e2
        obtain ⟨kvs, h1, h2, h3⟩ := kvs_of (fun k hk' => hk k (List.mem_cons_of_mem _ hk')) r1 r2
        obtain ⟨k', rfl⟩ := isK_k (hk k (List.mem_cons_self ..))
        cases rx.kV
        exact ⟨(k', y) :: kvs, by rw [h1]; rfl, by rw [h2]; rfl, y, _, rfl, ry, h3⟩
theorem merge_rel {G : Wd} {β : List Addr} {H : Hp} : ∀ {kvs : List (L2.Key × V)} {vs : List MV}, RVs G β H vs (kvs.map (·.2)) → ∀ {acc : List (L2.Key × V)} {bs : List MV} {q : List MV × List MV}, RVs G β H bs (acc.map (·.2)) → dputs (acc.map fun p => kM p.1) bs (kvs.map fun p => kM p.1) vs = some q → q.1 = (mergeK acc kvs).map (fun p => kM p.1) ∧ RVs G β H q.2 ((mergeK acc kvs).map (·.2))
  | [], vs, r, acc, bs, q, rb, h => by
    have : vs = [] := by
      cases vs with
      | nil => rfl
      | cons _ _ => obtain ⟨_, _, e, _⟩ := r; cases e
    subst this
    cases h
    exact ⟨rfl, rb⟩
  | p :: kvs, vs, r, acc, bs, q, rb, h => by
    cases vs with
    | nil => cases (show _ = _ from r)
    | cons v vs =>
      obtain ⟨y, t, e, ry, rs⟩ := r
      cases e
      simp only [List.map_cons, dputs] at h
      split at h
      · rename_i a b hd
        unfold dput at hd
        split at hd
        · obtain ⟨e1, e2⟩ := putK_rel (k := p.1) ry rb
          have e0 := Option.some.inj hd
          rw [e0] at e1 e2
          dsimp only at e1 e2
          subst e1
          exact merge_rel rs (acc := putK acc p.1 p.2) e2 h
        · cases hd
      · cases h
theorem pairs_rel {G : Wd} {β : List Addr} {H : Hp} : ∀ {ys ks vs : List MV} {zs : List V}, pairs2 ys = some (ks, vs) → RVs G β H ys zs → ∃ (ps : List Addr) (uv : List (V × V)), zs = ps.map V.ref ∧ Paired (fun p (q : V × V) => SqT G.K H p [q.1, q.2]) ps uv ∧ RVs G β H ks (uv.map (·.1)) ∧ RVs G β H vs (uv.map (·.2))
  | [], ks, vs, zs, h, r => by
    cases h
    exact ⟨[], [], r, .nil, rfl, rfl⟩
  | .tup [k, v] :: ys, ks, vs, zs, h, r => by
    obtain ⟨⟨ks', vs'⟩, h', e⟩ := Option.map_eq_some_iff.mp h
    cases e
    obtain ⟨z, t, rfl, ⟨a, ws, rfl, f, rw'⟩, rs⟩ := r
    obtain ⟨ps, uv, e, p, r1, r2⟩ := pairs_rel h' rs
    obtain ⟨y1, t1, rfl, ry1, ⟨y2, t2, rfl, ry2, rnil⟩⟩ := rw'
    cases (show t2 = [] from rnil)
    exact ⟨a :: ps, (y1, y2) :: uv, by rw [e]; rfl, .cons f.sq p, ⟨y1, _, rfl, ry1, r1⟩, ⟨y2, _, rfl, ry2, r2⟩⟩
theorem paired_map {α β γ : Type} {R : α → β → Prop} {f : γ → β} : ∀ {ps : List α} {l : List γ}, Paired R ps (l.map f) → Paired (fun p x => R p (f x)) ps l
  | [], [], _ => .nil
  | _ :: _, [], h => by cases h
  | [], _ :: _, h => by cases h
  | _ :: _, _ :: _, .cons h t => .cons h (paired_map t)
theorem cr_dictM {c : Cf} {X : Cx} (hK : X.K = c.G.K) (hc : X.calm = true) : CallR X (.type "dict") (rF c biDict) := by
  refine CallR.dyn fun xs H Q => ?_
  rintro ⟨β, M, vs, z, rm, rs, hz, gv⟩
  unfold biDict at hz
  split at hz
  · obtain ⟨x, rfl, rv⟩ := rs.one
    split at hz
    · rename_i ks ws hv
      obtain ⟨a, kvs, rfl, rd, rfl, r⟩ := dict_at rm rv hv
      cases hz
      exact ⟨_, call_dictD, a, kvs, rfl, rd, fun p hp => gv p _ hp ⟨kvs, rfl, rfl, r⟩⟩
    · split at hz
      · rename_i ys hy
        obtain ⟨a, zs, rfl, f, r⟩ := lst_at rm rv hy
        obtain ⟨⟨ks, ws⟩, hp2, hz⟩ := Option.bind_eq_some_iff.mp hz
        obtain ⟨q, hq, rfl⟩ := Option.map_eq_some_iff.mp hz
        obtain ⟨ps, uv, rfl, pr, r1, r2⟩ := pairs_rel hp2 r
        obtain ⟨kvs, rfl, rfl, r3⟩ := kvs_of (dputs_isK hq) r1 r2
        have pr' : Paired (fun (p : Addr) (kv : L2.Key × V) => SqT c.G.K H p [L2.kV kv.1, kv.2]) ps kvs := by
          exact paired_map (R := fun (p : Addr) (q : V × V) => SqT c.G.K H p [q.1, q.2]) (f := fun kv : L2.Key × V => (L2.kV kv.1, kv.2)) pr
        obtain ⟨m1, m2⟩ := merge_rel r3 (acc := []) (bs := []) rfl hq
        exact ⟨_, call_dictP hc, a, ps, kvs, rfl, .inl (.inl f), hK ▸ pr', fun p hp => gv p _ hp ⟨_, rfl, m1, m2⟩⟩
      · cases hz
  · cases hz
theorem tE_biV {c : Cf} {T : Tb} {N : List Str} {sc : Scope} {wx : WX} {X : Cx} (cx : Ctx0 c T N sc X) {b : Str} {id : String} {e : Expr} {es : List Expr} {p pos : Pos} {ms : List ME} (g : Mem → List MV → Option MV) (hr : CallR X (.builtin id) (rN c g)) (hb : ∀ M vs, biM M b vs = g M vs) (hv : bootBuiltins b = some (.builtin id)) (hf : b ∈ T.frees) (hg : Gl X b) (hn : okN b = true) (hs : isStar e = false) (hss : es.all (fun e => !isStar e) = true) (ha : PA X (e :: es) (tA c wx ms)) : PE X (.Call (.Name b p) (e :: es) [] pos) (tE c wx (.bi b ms)) := by
  refine PE.imp (pe_callB hr hg (cx.mg ▸ cx.stat.free b hf) hv ha (okN_n hn) (okN_d hn) (notStar hs) (starsNil hss)) fun σ H Q => ?_
  rintro ⟨β, M, ρ, rm, rs, ok⟩
  rw [evalE] at ok
  refine ⟨β, M, ρ, rm, rs, ok.bind.imp fun β1 M1 vs H1 st1 rm1 k xs rxs => ?_⟩
  obtain ⟨z, hz, gv⟩ := gv_of k
  exact ⟨β1, M1, vs, z, rm1, rxs, by rw [← hb]; exact hz, gv⟩
theorem tF_of_call {c : Cf} {wx : WX} {X : Cx} {e : Expr} {b : Str} {ms : List ME} {g : Mem → List MV → Option MV} {t : TA} (hb : ∀ M vs, biM M b vs = g M vs) (h : PE X e (tCB (rF c g) (tA c wx ms))) : PE X e (tF c wx (.bi b ms)) := by
  refine PE.imp h fun σ H Q => ?_
  rintro ⟨β, M, ρ, rm, rs, ok⟩
  rw [evalE] at ok
  refine ⟨β, M, ρ, rm, rs, ok.bind.imp fun β1 M1 vs H1 st1 rm1 k xs rxs => ?_⟩
  obtain ⟨z, hz, k⟩ := k.of
  exact ⟨β1, M1, vs, z, rm1, rxs, by rw [← hb]; exact hz, k β1 H1 Step.rfl' rm1⟩
end Mi
/-! Mini, part Rp: repr of data. -/
set_option autoImplicit false
set_option linter.all false
namespace Mi
open PySem L2

def kd : L2.Key → PyData
  | .inl i => .int i
  | .inr s => .str s
theorem pdds_keys : ∀ kvs : List (L2.Key × V), pdds (kvs.map fun p => kM p.1) = some (kvs.map fun p => kd p.1)
  | [] => rfl
  | p :: r => by
    have h : pdd (kM p.1) = some (kd p.1) := by cases p.1 <;> rfl
    simp only [List.map_cons, pdds, h, pdds_keys r]
theorem keys_read {P : Program} {w : World} {h : Heap} : ∀ {kvs : List (L2.Key × V)} {vs : List (L2.Key × Value)} {es : List DictEntry}, KV kvs vs → Pairs (mixKind P w) es vs → ReadsAll h (es.map (·.key)) (kvs.map fun p => kd p.1) []
  | [], [], _, .nil, .nil => .nil
  | p :: kvs, q :: vs, e :: es, .cons r t, .cons hk hv pr => by
    obtain ⟨r1, r2⟩ := r
    have ih := keys_read (h := h) t pr
    have one : Reads h e.key (kd p.1) [] := by
      have hk' : keyIs q.1 e.key = true := hk
      rw [← r1] at hk'
      rcases keyIs_shape hk' with ⟨i, t, e1, e2⟩ | ⟨x, t, e1, e2⟩
      · rw [e1, e2]; exact .int _ _
      · rw [e1, e2]; exact .str _ _
    exact .cons one ih
theorem vals_read {P : Program} {w : World} : ∀ {kvs : List (L2.Key × V)} {vs : List (L2.Key × Value)} {es : List DictEntry}, KV kvs vs → Pairs (mixKind P w) es vs → Vals (kvs.map (·.2)) (es.map (·.val))
  | [], [], _, .nil, .nil => .nil
  | p :: kvs, q :: vs, e :: es, .cons r t, .cons hk hv pr => by
    refine .cons ?_ (vals_read t pr)
    show RelV p.2 e.val
    rw [hv]; exact r.2
section
variable {X : Cx} {pins : List (Addr × Obj)} {σ : St} {H : Hp} {s : Shared} {G : Wd}
mutual
theorem reads_of (I : L2.Inv X pins σ H s) (hK : X.K = G.K) : ∀ {w : MV} {x : V} {u : Value} {d : PyData}, RV G [] H w x → pdd w = some d → RelV x u → ∃ as, Reads s.heap u d as ∧ ∀ a ∈ as, H a ≠ none
  | .non, x, u, d, r, e, rx => by cases (show x = _ from r); cases e; cases (show u = _ from rx); exact ⟨[], .none, by simp⟩
  | .bl b, x, u, d, r, e, rx => by cases (show x = _ from r); cases e; cases (show u = _ from rx); exact ⟨[], .bool b, by simp⟩
  | .int b, x, u, d, r, e, rx => by
    cases (show x = _ from r); cases e
    obtain ⟨t, rfl⟩ := (show ∃ t, u = Value.int b t from rx)
    exact ⟨[], .int b t, by simp⟩
  | .str b, x, u, d, r, e, rx => by
    cases (show x = _ from r); cases e
    obtain ⟨t, rfl⟩ := (show ∃ t, u = Value.str b t from rx)
    exact ⟨[], .str b t, by simp⟩
  | .tup xs, x, u, d, ⟨a, ys, ex, f, rs⟩, e, rx => by
    subst ex
    cases (show u = Value.ref a from rx)
    obtain ⟨ds, hd, rfl⟩ := Option.map_eq_some_iff.mp e
    obtain ⟨its, rv, ⟨o, ho, hc, n, hdt⟩, _⟩ := I.tuple (hK ▸ f.sq)
    obtain ⟨as, hr, ha⟩ := readsAll_of I hK rs hd rv
    exact ⟨as, .tuple ho hc hdt hr, ha⟩
  | .fls xs, x, u, d, ⟨a, ys, ex, f, rs⟩, e, rx => by
    subst ex
    cases (show u = Value.ref a from rx)
    obtain ⟨ds, hd, rfl⟩ := Option.map_eq_some_iff.mp e
    obtain ⟨its, rv, ⟨o, n, ho, hc, _, hdt⟩, _⟩ := I.list (.inl (.inl f.2))
    obtain ⟨as, hr, ha⟩ := readsAll_of I hK rs hd rv
    refine ⟨a :: as, .list ho hc hdt hr, fun b hb => ?_⟩
    rcases List.mem_cons.mp hb with rfl | hb
    · rw [f.2]; simp
    · exact ha b hb
  | .fdc ks vs, x, u, d, ⟨a, kvs, ex, n, rd, hk, rs⟩, e, rx => by
    subst ex
    cases (show u = Value.ref a from rx)
    subst hk
    simp only [pdd, pdds_keys] at e
    split at e
    · rename_i ka va h1 h2
      cases h1
      split at e
      · rename_i hl
        cases e
        obtain ⟨z, hd, vs', rel, o, es, ep, e1, e2, e3, ko, prs, nd⟩ := dk_rd I.hok rd
        obtain ⟨as, hr, ha⟩ := readsAll_of I hK rs h2 (vals_read rel prs)
        have hz1 : ((kvs.map fun p => kd p.1).zip va).map (·.1) = kvs.map fun p => kd p.1 := List.map_fst_zip (by omega)
        have hz2 : ((kvs.map fun p => kd p.1).zip va).map (·.2) = va := List.map_snd_zip (by omega)
        refine ⟨a :: [] ++ as, .dict e1 e2.1 e3 (by rw [hz1]; exact keys_read rel prs) (by rw [hz2]; exact hr), fun b hb => ?_⟩
        rcases List.mem_cons.mp hb with rfl | hb
        · rcases rd with rd | ⟨o, rd⟩ <;> rw [rd] <;> simp
        · exact ha b hb
      · cases e
    · cases e
  | .scr _, _, _, _, _, e, _ => by cases e
  | .obj _ _ _, _, _, _, _, e, _ => by cases e
  | .exn _ _ _, _, _, _, _, e, _ => by cases e
  | .ref _, _, _, _, _, e, _ => by cases e
theorem readsAll_of (I : L2.Inv X pins σ H s) (hK : X.K = G.K) : ∀ {ws : List MV} {xs : List V} {us : List Value} {ds : List PyData}, RVs G [] H ws xs → pdds ws = some ds → Vals xs us → ∃ as, ReadsAll s.heap us ds as ∧ ∀ a ∈ as, H a ≠ none
  | [], xs, us, ds, r, e, rx => by
    cases (show xs = _ from r); cases e; cases rx
    exact ⟨[], .nil, by simp⟩
  | w :: ws, xs, us, ds, ⟨y, t, ex, r, rs⟩, e, rx => by
    subst ex
    simp only [pdds] at e
    split at e
    · rename_i d ds' h1 h2
      cases e
      cases rx with
      | cons r1 r2 =>
        obtain ⟨as, q1, a1⟩ := reads_of I hK r h1 r1
        obtain ⟨bs, q2, a2⟩ := readsAll_of I hK rs h2 r2
        refine ⟨as ++ bs, .cons q1 q2, fun b hb => ?_⟩
        rcases List.mem_append.mp hb with hb | hb
        · exact a1 b hb
        · exact a2 b hb
    · cases e
end
end
theorem cr_repr {c : Cf} {X : Cx} (hK : X.K = c.G.K) (hq : Quiet X.A) (hu : X.A.units + 70 < cLine) (hsys : (c.G.K.lookup sysModules).isSome = true) : CallR X (.builtin "repr") (rN c biRepr) := by
  intro pins s σ H xs us Q I r h
  obtain ⟨β, M, vs, z, rm, rs, hz, gv⟩ := h
  unfold biRepr at hz
  split at hz
  · rename_i v
    obtain ⟨x, rfl, rv⟩ := rs.one
    obtain ⟨u, rfl, ru⟩ := vals1 r
    obtain ⟨d, hd, hz⟩ := Option.bind_eq_some_iff.mp hz
    obtain ⟨w, hw, hp⟩ := Option.bind_eq_some_iff.mp hd
    split at hz
    · rename_i hc
      cases hz
      simp only [Bool.and_eq_true, decide_eq_true_eq] at hc
      obtain ⟨⟨h1, h2⟩, h3⟩ := hc
      have rw_ : RV c.G [] H w x := RV.frz (Und.pre (List.nil_prefix)) (frzR_ok (List.nil_prefix) rm DEEP) rv hw
      obtain ⟨as, rd, ha⟩ := reads_of I hK rw_ hp ru
      have hns : sysModules ∉ as := fun m => by
        obtain ⟨o, ho⟩ := Option.isSome_iff_exists.mp hsys
        have := (I.bs _ _ (I.ok.mod.kin _ _ (hK.symm ▸ ho))).2
        exact ha _ m this
      have fin : ∀ h' (t tk : Nat), (∀ b o, s.heap.get? b = some o → h'.get? b = some o) → EP X pins σ Q (.str d.shown t) { s with heap := h', toks := tk } := fun h' t tk k => ⟨.str d.shown, H, I.kept (t' := tk) k, ⟨t, rfl⟩, gv.now rm rfl⟩
      have hsz : d.shown.length ≤ sizeLine := by rw [← line_eq]; exact h3
      cases x with
      | ref a =>
        cases (show u = Value.ref a from ru)
        exact repr_of_reads' rd h1 (fun _ => hns) hq (by omega) (fun _ _ e => e) (fun h' t tk k => fin h' t tk k) hsz
      | non =>
        cases (show u = Value.none from ru)
        cases rd
        exact PySem.P.repr_of_none (fin s.heap _ _ fun _ _ e => e)
      | bl b =>
        cases (show u = Value.bool b from ru)
        cases rd
        exact PySem.P.repr_of_bool (fin s.heap _ _ fun _ _ e => e)
      | int i =>
        obtain ⟨t, rfl⟩ := (show ∃ t, u = Value.int i t from ru)
        cases rd
        exact PySem.P.repr_of_int (by simpa [PyData.showable] using h1) (fin s.heap _ _ fun _ _ e => e)
      | str y =>
        obtain ⟨t, rfl⟩ := (show ∃ t, u = Value.str y t from ru)
        cases rd
        exact PySem.P.repr_of_str (fin s.heap _ _ fun _ _ e => e) hsz
      | _ =>
        exfalso
        cases rd <;> first | exact ru | (cases ru; done) | (obtain ⟨_, z⟩ := ru; cases z)
    · cases hz
  · cases hz
end Mi
/-! Mini, part Lv: list(d.values()). -/
set_option autoImplicit false
set_option linter.all false
namespace Mi
open PySem L2 PySem.Spec PyProof.Rows
section
variable {X : Cx} {e : Expr} {te : TE} {p apos cpos pos : Pos}
theorem vals_view {kvs : List (L2.Key × V)} {vs : List (L2.Key × Value)} (rel : KV kvs vs) {l : List Value} (hl : l.length = vs.length) (h : ∀ (j : Nat) (v : Value), l[j]? = some v → ∃ k, vs[j]? = some (k, v)) : Vals (kvs.map (·.2)) l := by
  have e : l = vs.map (·.2) := PySem.W.kdl_vals_eq l hl h
  subst e
  clear hl h
  induction rel with
  | nil => exact .nil
  | cons r t ih => exact .cons r.2 ih
/-- a new list of a dict's values -/
theorem pe_listVals (hc : X.calm = true) (he : PE X e te) (hg : Gl X "list") (hm : X.mg "list" = none) (hv : bootBuiltins "list" = some (.type "list")) (hbase : attributeBase e "values" X.env (eval e X.env) = eval e X.env) (hline : (apos.endLine == cpos.line) = true) :
    PE X (.Call (.Name "list" p) [.Call (.Attribute e "values" apos) [] [] cpos] [] pos) (fun σ H Q => te σ H fun x H1 => ∃ (d : Addr) (kvs : List (L2.Key × V)), x = .ref d ∧ Rd H1 d (.dK kvs) ∧ ∀ q, H1 q = none → Q (.ref q) (upd H1 q (.lst (kvs.map (·.2))))) := by
  have hs : starEach [.Call (.Attribute e "values" apos) [] [] cpos] X.env = (false, eval (.Call (.Attribute e "values" apos) [] [] cpos) X.env) :: starEach [] X.env := by rfl
  refine ⟨fun pins s σ H Q I hq => ?_⟩
  refine wpAny_Call_Name_kw (ld_blt I hg hm hv ?_)
  refine PyProof.Rows.callWith_type1 ?_ hs rfl
  rw [hs]
  show wpAny _ _ (spliced ((false, eval (.Call (.Attribute e "values" apos) [] [] cpos) X.env) :: backTo pos (starEach [] X.env))) _ _ s
  refine Calls.spliced_cons ?_
  refine wpAny_Call_method (T := "dict") (id := "dict.values") hbase rfl hline F.plainAttrs_dict F.slot_dict_values F.type_dict_values (thn (he.run pins s σ H _ I hq) fun u s1 z => ?_)
  obtain ⟨x, H1, I1, rx, d, kvs, rfl, hd, q⟩ := z
  cases (show u = Value.ref d from rx)
  obtain ⟨hz, hs0, vs, kv, hdo⟩ := dk_rd I1.hok hd
  obtain ⟨ep, hat⟩ := hdo.dictAt
  have lk : kvs.length = vs.length := Paired.length kv
  have I2 : L2.Inv X pins σ H1 { s1 with heap := s1.heap.push { cls := .type "dict_values", data := .fields #[.ref d] } } := I1.kept (t' := s1.toks) fun b ob q => Heap.get?_push_of_some _ q
  refine ⟨hdo.typeIs, hdo.mapOf.noDict, ?_⟩
  show wpAny _ _ (callWith cpos (.builtin "dict.values") [.ref d] [] []) _ X.xe s1
  refine method_meetsIn F.slot_dict_values F.entry_dict_values rfl (PySem.evalArgs_none ⟨rfl, hdo.typeIs, F.args_dict_values_1 _, _, meets_dict_values (mixKind X.prog X.w) d hs0, ⟨vs, hdo⟩, ?_⟩)
  refine Calls.spliced_nil ?_
  refine PySem.W.kdl_call (PySem.W.kdl_values (knd := mixKind X.prog X.w) (kvs := vs) (ep := ep) (d := d) (r := s1.heap.objs.size)) (I1.ok.hd hc) ⟨⟨_, Heap.get?_push_size _ rfl, rfl, rfl⟩, hat.push _⟩ (by rw [← lk]; exact hz) fun h' tk acc c hk hS hacc => ?_
  have rv : Vals (kvs.map (·.2)) acc.toList := vals_view kv (by rw [Array.length_toList]; exact hacc.1) fun j v e => hacc.2 j v (by rw [← Array.getElem?_toList]; exact e)
  have nz : H1 (s1.heap.push { cls := .type "dict_values", data := .fields #[.ref d] }).objs.size = none := I2.hok.fresh (Nat.le_refl _)
  exact ⟨.ref _, upd H1 _ (.lst (kvs.map (·.2))), I2.laid (t' := tk) hk (Nat.le_refl _)
    (show ObjOk X.prog X.w _ _ _ (.lst (kvs.map (·.2))) from ⟨by rw [List.length_map]; exact hz, acc.toList, c, rv, by rw [Array.toArray_toList]; exact hS⟩), rfl, q _ nz⟩
theorem tF_lvals {c : Cf} {T : Tb} {N : List Str} {sc : Scope} {wx : WX} (cx : Ctx c T N sc wx X) {m : ME} (he : PE X e (tE c wx m)) (hb : bareCall e = false) (hf : ("list" : Str) ∈ T.frees) (hg : Gl X "list") (hline : (apos.endLine == cpos.line) = true) :
    PE X (.Call (.Name "list" p) [.Call (.Attribute e "values" apos) [] [] cpos] [] pos) (tF c wx (.lvals m)) := by
  refine PE.imp (pe_listVals cx.calm he hg (cx.mg ▸ cx.stat.free _ hf) (by decide +kernel) (attrB hb) hline) fun σ H Q => ?_
  rintro ⟨β, M, ρ, rm, rs, ok⟩
  rw [evalE] at ok
  refine ⟨β, M, ρ, rm, rs, ok.bind.imp fun β1 M1 v H1 st1 rm1 k x rx => ?_⟩
  unfold dict? at k
  split at k
  · rename_i ks vs hd
    split at hd
    · rename_i ks' vs' hv
      cases hd
      obtain ⟨a, kvs, rfl, rd, rfl, r⟩ := dict_at rm1 rx hv
      exact ⟨a, kvs, rfl, rd, fun q hq => k β1 H1 Step.rfl' rm1 q _ hq ⟨_, rfl, r⟩⟩
    · cases hd
  · exact k.elim
end
end Mi
/-! Mini, part L: fields, subscripts, slices, isinstance, chains, methods of built-in things. -/
set_option autoImplicit false
set_option linter.all false
namespace Mi
open PySem L2

theorem fidx_zip : ∀ {ns : List Str} {ys : List V} {vs : List MV} {G : Wd} {β : List Addr} {H : Hp} {f : Str} {w : MV}, RVs G β H vs ys → fldV ns vs f = some w → ns.length = vs.length → ∃ x, (ns.zip ys).lookup f = some x ∧ RV G β H w x
  | [], _, _, _, _, _, _, _, _, h, _ => by cases h
  | n :: ns, ys, [], _, _, _, f, w, _, h, hl => by simp at hl
  | n :: ns, ys, v :: vs, G, β, H, f, w, ⟨y, t, e, r, rs⟩, h, hl => by
    subst e
    by_cases c : n = f
    · subst c
      have : fldV (n :: ns) (v :: vs) n = some v := by simp [fldV, fidx]
      rw [this] at h; cases h
      exact ⟨y, by rw [List.zip_cons_cons, List.lookup_cons_self], r⟩
    · have : fldV (n :: ns) (v :: vs) f = fldV ns vs f := by
        simp only [fldV, fidx, c, if_false]
        cases fidx ns f <;> simp
      rw [this] at h
      obtain ⟨x, hx, rx⟩ := fidx_zip rs h (by simpa using hl)
      have hb : (f == n) = false := by
        rw [beq_eq_false_iff_ne]; exact fun z => c z.symm
      exact ⟨x, by rw [List.zip_cons_cons, List.lookup_cons, hb]; exact hx, rx⟩
theorem passFX {P : Program} {w : World} {X : Cx} : Passes (CX P w) X.nox (fun _ _ _ => False) := by
  rintro pins σ H s e s' I ⟨a, B, H', cl, d, _, _, _, _, _, _, _, h⟩
  exact h.elim
theorem tE_fld {c : Cf} {T : Tb} {N : List Str} {sc : Scope} {wx : WX} {X : Cx} (cx : Ctx c T N sc wx X) {o : Expr} {f : Str} {pos : Pos} {mo : ME} (ho : PE X o (tE c wx mo)) (hb : bareCall o = false) : PE X (.Attribute o f pos) (tE c wx (.fld mo f)) := by
  refine PE.dyn fun σ H Q => ?_
  rintro ⟨β, M, ρ, rm, rs, ok⟩
  rw [evalE] at ok
  cases ev : evalE c.P c.cal mo ρ M with
  | err => rw [ev] at ok; exact ok.elim
  | ex cn ns vs M' =>
    rw [ev] at ok
    exact ⟨_, pe_fld ho (attrB hb), β, M, ρ, rm, rs, by rw [ev]; exact ok⟩
  | ok v M1 =>
    rw [ev] at ok
    have ok' : ∀ β1 H1, Step c.G β H β1 H1 → RelM c.G β1 M1 H1 → OkR c (fun cl d => wx cl d σ) β1 H1 (getFld c.P c.cal v f M1) (KQ c Q) := fun β1 H1 st _ => OkR.from ok st
    cases hv : fields M1 v with
    | none =>
      have : getFld c.P c.cal v f M1 = .err := by unfold getFld; rw [hv]
      exact absurd ok (by simp only [Res.bind, this]; exact fun h => h)
    | some t =>
      obtain ⟨cn, ns, vs⟩ := t
      cases hd : clsOf c.P cn with
      | none =>
        have : getFld c.P c.cal v f M1 = .err := by unfold getFld; rw [hv]; simp only [hd]
        exact absurd ok (by simp only [Res.bind, this]; exact fun h => h)
      | some d =>
        obtain ⟨C, ci⟩ := cx.stat.cls cn d hd
        have hnm : d.nm = cn := by simpa using List.find?_some hd
        have hC : c.G.cls cn = some C := hnm ▸ ci.at_
        cases hp : d.props.lookup f with
        | some g =>
          obtain ⟨q, fa, fd, hfa, hpo⟩ := ci.prop f g hp
          obtain ⟨d', hd', F, hbd, hk⟩ := fnok_at cx hfa
          refine ⟨_, pe_prop ho (cx.K ▸ ci.cls) (cx.K ▸ hpo) F (cx.room.mono (by omega)) cx.quiet hbd passFX (attrB hb), β, M, ρ, rm, rs, ?_⟩
          rw [ev]
          intro β1 H1 st1 rm1 x rx
          obtain ⟨a, C1, dx, ys, rfl, hc1, hi1, hl1, r1⟩ := fields_at rm1 rx hv
          rw [hC] at hc1; cases hc1
          have k := ok' β1 H1 st1 rm1
          unfold getFld at k
          rw [hv] at k
          simp only [hd, hp] at k
          exact ⟨a, dx, _, rfl, hi1, β1, M1, [v], rm1, ⟨_, _, rfl, rx, rfl⟩, k.noEx⟩
        | none =>
          refine ⟨_, pe_fld ho (attrB hb), β, M, ρ, rm, rs, ?_⟩
          rw [ev]
          intro β1 H1 st1 rm1 x rx
          obtain ⟨a, C1, dx, ys, rfl, hc1, hi1, hl1, r1⟩ := fields_at rm1 rx hv
          rw [hC] at hc1; cases hc1
          have k := ok' β1 H1 st1 rm1
          unfold getFld at k
          rw [hv] at k
          simp only [hd, hp] at k
          split at k
          · rename_i hfl
            obtain ⟨z, hz, gv⟩ := gv_of k
            obtain ⟨y, hy, ry⟩ := fidx_zip r1 hz hl1
            exact ⟨a, C, dx, _, y, rfl, hi1, cx.K ▸ ci.cls, cx.K ▸ ci.fld f (by simpa using hfl), hy, gv.now rm1 ry⟩
          · exact k.elim

/-! ### subscripts -/
theorem atI_rel {G : Wd} {β : List Addr} {H : Hp} {vs : List MV} {ys : List V} {i : Int} {w : MV} (r : RVs G β H vs ys) (h : ((Mi.ixN vs.length i).bind fun j => vs[j]?) = some w) : ∃ x, L2.atI ys i = some x ∧ RV G β H w x := by
  obtain ⟨j, hj, hw⟩ := Option.bind_eq_some_iff.mp h
  obtain ⟨x, hx, rx⟩ := r.at hw
  refine ⟨x, ?_, rx⟩
  unfold L2.atI
  rw [r.len]
  exact Option.bind_eq_some_iff.mpr ⟨j, hj, hx⟩
theorem ix_M {c : Cf} {X : Cx} (hK : X.K = c.G.K) (hu : X.A.units + 1 < cLine) : IxR X (r2 c idxM) := by
  refine IxR.dyn fun x y H Q => ?_
  rintro ⟨β, M, v, u, z, rm, rv, ru, hz, gv⟩
  unfold idxM at hz
  split at hz
  · rename_i xs hv
    split at hz
    · cases (show y = _ from ru)
      obtain ⟨a, ys, rfl, f, r⟩ := seq_at rm rv hv
      obtain ⟨w, hw, rw'⟩ := atI_rel r hz
      rcases f with f | f
      · exact ⟨_, ix_list, a, ys, _, w, rfl, rfl, hK ▸ f, hw, gv.now rm rw'⟩
      · exact ⟨_, ix_tup, a, ys, _, w, rfl, rfl, hK ▸ f, hw, gv.now rm rw'⟩
    · cases hz
  · rename_i ks ws hv
    split at hz
    · rename_i hk
      obtain ⟨k, rfl⟩ := isK_k hk
      cases ru.kV
      obtain ⟨a, kvs, rfl, rd, rfl, r⟩ := dict_at rm rv hv
      obtain ⟨x, hx, rx⟩ := dget_some r hz
      exact ⟨_, ix_dict hu, a, x, rfl, .inl ⟨kvs, k, rd, rfl, hx.symm⟩, gv.now rm rx⟩
    · cases hz
  · rename_i s hv
    split at hz
    · obtain ⟨rfl, rfl⟩ := text_at rm rv hv
      cases (show y = _ from ru)
      split at hz
      · rename_i hl
        obtain ⟨j, hj, hw⟩ := Option.bind_eq_some_iff.mp hz
        obtain ⟨w, hw, rfl⟩ := Option.map_eq_some_iff.mp hw
        refine ⟨_, ix_str, s, _, w, rfl, rfl, by rw [← line_eq]; exact hl, ?_, gv.now rm rfl⟩
        unfold L2.atI
        refine Option.bind_eq_some_iff.mpr ⟨j, ?_, by simpa using hw⟩
        have : s.cps.toList.length = s.length := by simp [Str.length]
        rw [this]; exact hj
      · cases hz
    · cases hz
  · cases hz
theorem plIx {e : Expr} (h : okIx e = true) : PlainIx e := noSl h
theorem tE_idx {c : Cf} {T : Tb} {N : List Str} {sc : Scope} {wx : WX} {X : Cx} (cx : Ctx c T N sc wx X) {a b : Expr} {ma mb : ME} {pos : Pos} (ha : PE X a (tE c wx ma)) (hb : PE X b (tE c wx mb)) (hs : okIx b = true) : PE X (.Subscript a b pos) (tE c wx (.idx ma mb)) := by
  refine PE.imp (pe_ix (ix_M cx.K (by have := cx.units; omega)) ha hb (plIx hs)) fun σ H Q => ?_
  rintro ⟨β, M, ρ, rm, rs, ok⟩
  rw [evalE] at ok
  refine ⟨β, M, ρ, rm, rs, ok.bind.imp fun β1 M1 v H1 st1 rm1 k x rx => ?_⟩
  refine ⟨β1, M1, ρ, rm1, rs.step st1, k.bind.imp fun β2 M2 u H2 st2 rm2 k2 y ry => ?_⟩
  obtain ⟨z, hz, gv⟩ := gv_of k2
  exact ⟨β2, M2, v, u, z, rm2, RV.step st2 _ _ rx, ry, hz, gv⟩

/-! ### chains of two comparisons -/
theorem noLast {op op' : CmpOp} {b c : Expr} (hb : isSet b = false) (hc : isSet c = false) : lastMarks [op, op'] [b, c] = false := by
  cases b <;> cases c <;> first | rfl | exact Bool.noConfusion hb | exact Bool.noConfusion hc
theorem tE_cmp2 {c : Cf} {T : Tb} {N : List Str} {sc : Scope} {wx : WX} {X : Cx} (cx : Ctx c T N sc wx X) {a b d : Expr} {op op' : CmpOp} {ma mb md : ME} {pos : Pos} (ha : PE X a (tE c wx ma)) (hb : PE X b (tE c wx mb)) (hd : PE X d (tE c wx md)) (hs : isSet b = false) (hs' : isSet d = false) : PE X (.Compare a [op, op'] [b, d] pos) (tE c wx (.cmp2 op op' ma mb md)) := by
  refine PE.imp (pe_chain (op_compare cx op) (op_compare cx op') ha hb hd (noLast hs hs')) fun σ H Q => ?_
  rintro ⟨β, M, ρ, rm, rs, ok⟩
  rw [evalE] at ok
  refine ⟨β, M, ρ, rm, rs, ok.bind.imp fun β1 M1 v H1 st1 rm1 k x rx => ?_⟩
  refine ⟨β1, M1, ρ, rm1, rs.step st1, k.bind.imp fun β2 M2 u H2 st2 rm2 k2 y ry => ?_⟩
  refine ⟨β2, M2, v, u, rm2, RV.step st2 _ _ rx, ry, (k2.bind.noEx).imp fun β3 M3 r H3 st3 rm3 k3 z rz => ?_⟩
  split at k3
  · refine ⟨true, rz, ?_⟩
    refine ⟨β3, M3, ρ, rm3, rs.step (st1.trans (st2.trans st3)), k3.bind.imp fun β4 M4 w H4 st4 rm4 k4 t rt => ?_⟩
    exact ⟨β4, M4, u, w, rm4, RV.step (st3.trans st4) _ _ ry, rt, k4.noEx⟩
  · exact ⟨false, rz, k3 β3 H3 Step.rfl' rm3 _ rfl⟩
  · exact k3.elim
theorem cmp2_bl {c : Cf} {op op' : CmpOp} {ma mb md : ME} {ρ : Env} {M : Mem} {v : MV} {M' : Mem} (h : evalE c.P c.cal (.cmp2 op op' ma mb md) ρ M = .ok v M') : ∃ b, v = .bl b := by
  rw [evalE] at h
  revert h
  cases evalE c.P c.cal ma ρ M with
  | ok x M1 =>
    simp only [Res.bind]
    cases evalE c.P c.cal mb ρ M1 with
    | ok y M2 =>
      simp only [Res.bind]
      cases hc : compare c.P c.cal op x y M2 with
      | ok z M3 =>
        simp only [noEx]
        obtain ⟨b, rfl⟩ := compare_bl hc
        cases b with
        | true =>
          simp only
          cases evalE c.P c.cal md ρ M3 with
          | ok w M4 =>
            simp only
            intro h
            cases hc' : compare c.P c.cal op' y w M4 with
            | ok z M5 => rw [hc'] at h; cases h; exact compare_bl hc'
            | ex _ _ _ _ => rw [hc'] at h; cases h
            | err => rw [hc'] at h; cases h
          | ex _ _ _ _ => simp
          | err => simp
        | false => intro h; cases h; exact ⟨false, rfl⟩
      | ex _ _ _ _ => simp [noEx]
      | err => simp [noEx]
    | ex _ _ _ _ => simp
    | err => simp
  | ex _ _ _ _ => simp [Res.bind]
  | err => simp [Res.bind]
theorem tT_cmp2 {c : Cf} {T : Tb} {N : List Str} {sc : Scope} {wx : WX} {X : Cx} (cx : Ctx c T N sc wx X) {a b d : Expr} {op op' : CmpOp} {ma mb md : ME} {pos : Pos} (ha : PE X a (tE c wx ma)) (hb : PE X b (tE c wx mb)) (hd : PE X d (tE c wx md)) (hs : isSet b = false) (hs' : isSet d = false) : PT X (.Compare a [op, op'] [b, d] pos) (tTst c wx (.cmp2 op op' ma mb md)) := by
  refine tT_val ?_ fun ρ M v M' h => cmp2_bl h
  refine PT.imp (pt_chain (op_compare cx op) (op_compare cx op') ha hb hd (noLast hs hs')) fun σ H Q => ?_
  rintro ⟨β, M, ρ, rm, rs, ok⟩
  rw [evalE] at ok
  refine ⟨β, M, ρ, rm, rs, ok.bind.imp fun β1 M1 v H1 st1 rm1 k x rx => ?_⟩
  refine ⟨β1, M1, ρ, rm1, rs.step st1, k.bind.imp fun β2 M2 u H2 st2 rm2 k2 y ry => ?_⟩
  refine ⟨β2, M2, v, u, rm2, RV.step st2 _ _ rx, ry, (k2.bind.noEx).imp fun β3 M3 r H3 st3 rm3 k3 z rz => ?_⟩
  split at k3
  · refine ⟨true, rz, ?_⟩
    refine ⟨β3, M3, ρ, rm3, rs.step (st1.trans (st2.trans st3)), k3.bind.imp fun β4 M4 w H4 st4 rm4 k4 t rt => ?_⟩
    exact ⟨β4, M4, u, w, rm4, RV.step (st3.trans st4) _ _ ry, rt, k4.noEx⟩
  · exact ⟨false, rz, k3 β3 H3 Step.rfl' rm3 _ rfl⟩
  · exact k3.elim
end Mi
/-! Mini, part M: methods, isinstance, displays of dicts. -/
set_option autoImplicit false
set_option linter.all false
namespace Mi
open PySem L2

theorem form_ok {es : List Expr} {env : PySem.Env} {pos : Pos} (hs : es.all (fun e => !isStar e) = true) (hl : es.length < 30) : methodCallForm (es.length + ([] : List Keyword).length) (backTo pos (starEach es env)) (backToKw pos (keywordEach [] env)) = true := by
  have h1 : ((backTo pos (starEach es env)).all fun x => !x.1) = true := by
    have := starsNil (env := env) (pos := pos) hs
    rw [List.all_eq_not_any_not]
    simpa using this
  unfold methodCallForm
  rw [h1]
  have h2 : backToKw pos (keywordEach [] env) = [] := rfl
  rw [h2]
  simp
  omega
theorem ht_gen (o e : Expr) (es : List Expr) (m : Str) (apos pos : Pos) (env : PySem.Env) (h : bareCall o = false) (hs : (e :: es).all (fun e => !isStar e) = true) (hl : (e :: es).length < 30) (hp : (apos.endLine == pos.line) = true) : ∃ pl : Sem Bool, eval ((o.Attribute m apos).Call (e :: es) [] pos) env = (do
      let ov ← eval o env
      standAt apos.atName
      let __x ← holding [ov] (getMethod ov m pl)
      match __x with
      | (f, first) => callWith pos f first (backTo pos (starEach (e :: es) env)) (backToKw pos (keywordEach [] env))) := by
  refine ⟨(do let r ← importBound o env; pure (r.getD true)), ?_⟩
  rw [eval, attrB h]
  unfold methodCall
  rw [form_ok hs hl]
  unfold calleeOf methodCallPos
  rw [hp]
  rfl
theorem ht_gen0 (o : Expr) (m : Str) (apos pos : Pos) (env : PySem.Env) (h : bareCall o = false) (hp : (apos.endLine == pos.line) = true) : ∃ pl : Sem Bool, eval ((o.Attribute m apos).Call [] [] pos) env = (do
      let ov ← eval o env
      standAt apos.atName
      let __x ← holding [ov] (getMethod ov m pl)
      match __x with
      | (f, first) => callWith pos f first (backTo pos (starEach [] env)) (backToKw pos (keywordEach [] env))) := by
  refine ⟨(do let r ← importBound o env; pure (r.getD true)), ?_⟩
  rw [eval, attrB h]
  unfold methodCall
  rw [form_ok (es := []) rfl (by decide)]
  unfold calleeOf methodCallPos
  rw [hp]
  rfl

/-! ### methods of built-in things, by values -/
def rMt (c : Cf) (k : BM) : V → List V → Hp → VK → Prop := fun x xs H Q => ∃ β M v vs, RelM c.G β M H ∧ RV c.G β H v x ∧ RVs c.G β H vs xs ∧ OkR c NoW β H (bmM M v k vs) (KQ c Q)
theorem RVs.two {G : Wd} {β : List Addr} {H : Hp} {v w : MV} {xs : List V} (r : RVs G β H [v, w] xs) : ∃ x y, xs = [x, y] ∧ RV G β H v x ∧ RV G β H w y := by
  obtain ⟨x, t, e, r, rs⟩ := r
  obtain ⟨y, rfl, r'⟩ := rs.one
  exact ⟨x, y, e, r, r'⟩
theorem RVs.last {G : Wd} {β : List Addr} {H : Hp} {vs : List MV} {xs : List V} (r : RVs G β H vs xs) : RVs G β H vs.dropLast xs.dropLast := by
  rw [List.dropLast_eq_take, List.dropLast_eq_take, r.len]; exact r.take _
/-- a mutable list is changed -/
theorem lst_wr {c : Cf} {w : Value → Option Addr → Hp → Prop} {β : List Addr} {M : Mem} {H : Hp} {i : Nat} {a : Addr} {zs : List MV} {ws : List V} {z : MV} {x : V} {Q : VK} (rm : RelM c.G β M H) (ha : β[i]? = some a) (hy : ∃ ys, H a = some (.lst ys)) (k : OkR c w β H (.ok z (wr M i (.lst zs))) (KQ c Q)) (rz : RVs c.G β H zs ws) (rx : RV c.G β H z x) : Q x (upd H a (.lst ws)) := by
  have nf : ∀ od u, H a ≠ some (.frz od u) := fun od u z => by obtain ⟨ys, hy⟩ := hy; rw [hy] at z; cases z
  have st := Step.wr rm ha (.lst ws) nf
  exact k β _ st (rm.wr ha _ nf (.lst zs) ⟨ws, upd_same, RVs.step st _ _ rz⟩) x (RV.step st _ _ rx)
theorem lstAt_at {c : Cf} {β : List Addr} {M : Mem} {H : Hp} {v : MV} {i : Nat} {x : V} {xs : List MV} (rm : RelM c.G β M H) (r : RV c.G β H v x) (h : lstAt M v = some (i, xs)) : ∃ a ys, β[i]? = some a ∧ x = .ref a ∧ H a = some (.lst ys) ∧ RVs c.G β H xs ys := by
  cases v with
  | ref j =>
    obtain ⟨a, ha, rfl⟩ := r
    obtain ⟨o, ho, ro⟩ := rm.get ha
    simp only [lstAt, ho] at h
    cases o with
    | lst zs => cases h; obtain ⟨ys, hy, rs⟩ := ro; exact ⟨a, ys, ha, rfl, hy, rs⟩
    | _ => cases h
  | _ => cases h
theorem onL_at {c : Cf} {w : Value → Option Addr → Hp → Prop} {β : List Addr} {M : Mem} {H : Hp} {v : MV} {x : V} {f : Nat → List MV → Res MV} {k : List Addr → Mem → MV → Hp → Prop} (rm : RelM c.G β M H) (r : RV c.G β H v x) (h : OkR c w β H (onL M v f) k) : ∃ i zs a ys, β[i]? = some a ∧ x = .ref a ∧ H a = some (.lst ys) ∧ RVs c.G β H zs ys ∧ OkR c w β H (f i zs) k := by
  unfold onL at h
  split at h
  · rename_i i zs hl
    obtain ⟨a, ys, ha, rfl, hy, rs⟩ := lstAt_at rm r hl
    exact ⟨i, zs, a, ys, ha, rfl, hy, rs, h⟩
  · exact h.elim
theorem mtM_append {c : Cf} {X : Cx} : MtR X "list.append" (rMt c .append) := by
  refine MtR.dyn fun x xs H Q => ?_
  rintro ⟨β, M, v, vs, rm, rv, rs, ok⟩
  obtain ⟨i, zs, a, ys, ha, rfl, hy, r, ok⟩ := onL_at rm rv ok
  unfold bmAppend at ok
  split at ok
  · obtain ⟨y, rfl, ry⟩ := rs.one
    split at ok
    · rename_i hl
      exact ⟨_, mt_append, a, ys, y, rfl, rfl, hy, by rw [r.len, ← line_eq]; exact hl, lst_wr rm ha ⟨_, hy⟩ ok (r.app ⟨_, _, rfl, ry, rfl⟩) rfl⟩
    · exact ok.elim
  · exact ok.elim
theorem mtM_extend {c : Cf} {X : Cx} : MtR X "list.extend" (rMt c .extend) := by
  refine MtR.dyn fun x xs H Q => ?_
  rintro ⟨β, M, v, vs, rm, rv, rs, ok⟩
  obtain ⟨i, zs, a, ys, ha, rfl, hy, r, ok⟩ := onL_at rm rv ok
  unfold bmExtend at ok
  split at ok
  · obtain ⟨y, rfl, ry⟩ := rs.one
    split at ok
    · rename_i ws hw
      obtain ⟨b, us, rfl, hb, rb⟩ := lst_at rm ry hw
      split at ok
      · rename_i hl
        exact ⟨_, mt_extend, a, b, ys, us, rfl, rfl, hy, hb, by rw [r.len, rb.len, ← line_eq]; exact hl, lst_wr rm ha ⟨_, hy⟩ ok (r.app rb) rfl⟩
      · exact ok.elim
    · exact ok.elim
  · exact ok.elim
theorem mtM_pop {c : Cf} {X : Cx} : MtR X "list.pop" (rMt c .pop) := by
  refine MtR.dyn fun x xs H Q => ?_
  rintro ⟨β, M, v, vs, rm, rv, rs, ok⟩
  obtain ⟨i, zs, a, ys, ha, rfl, hy, r, ok⟩ := onL_at rm rv ok
  unfold bmPop at ok
  split at ok
  · cases (show xs = [] from rs)
    split at ok
    · rename_i w hw
      obtain ⟨u, hu, ru⟩ := r.at hw
      exact ⟨_, mt_pop, a, ys, u, rfl, rfl, hy, by rw [r.len]; exact hu, lst_wr rm ha ⟨_, hy⟩ ok r.last ru⟩
    · exact ok.elim
  · exact ok.elim
theorem ixN_idx {n : Nat} {i : Int} {k : Nat} (h : Mi.ixN n i = some k) (hn : n ≤ LINE) : seqIndex? i n = some k ∧ -(2:Int) ^ 63 ≤ i ∧ i < 2 ^ 63 := by
  have hl : LINE = 16777216 := rfl
  unfold Mi.ixN at h
  unfold seqIndex?
  split at h
  · rename_i h0
    split at h
    · rename_i h1
      cases h
      refine ⟨?_, by omega, by omega⟩
      have : ¬ i < 0 := by omega
      simp [this, h0, h1]
    · cases h
  · rename_i h0
    split at h
    · rename_i h1
      cases h
      refine ⟨?_, by omega, by omega⟩
      have e1 : i < 0 := by omega
      have e2 : 0 ≤ i + (n : Int) := by omega
      have e3 : i + (n : Int) < n := by omega
      simp [e1, e2]
      omega
    · cases h
theorem mtM_popAt {c : Cf} {X : Cx} : MtR X "list.pop" (rMt c .popAt) := by
  refine MtR.dyn fun x xs H Q => ?_
  rintro ⟨β, M, v, vs, rm, rv, rs, ok⟩
  obtain ⟨i, zs, a, ys, ha, rfl, hy, r, ok⟩ := onL_at rm rv ok
  unfold bmPopAt at ok
  split at ok
  · obtain ⟨y, rfl, ry⟩ := rs.one
    cases (show y = _ from ry)
    split at ok
    · rename_i hl
      split at ok
      · rename_i k hk
        split at ok
        · rename_i w hw
          obtain ⟨u, hu, ru⟩ := r.at hw
          obtain ⟨h1, h2, h3⟩ := ixN_idx hk hl
          exact ⟨_, mt_popAt, a, ys, _, k, u, rfl, rfl, hy, h2, h3, by rw [r.len]; exact h1, hu, lst_wr rm ha ⟨_, hy⟩ ok (r.erase k) ru⟩
        · exact ok.elim
      · exact ok.elim
    · exact ok.elim
  · exact ok.elim
theorem mtM_insert {c : Cf} {X : Cx} : MtR X "list.insert" (rMt c .insert) := by
  refine MtR.dyn fun x xs H Q => ?_
  rintro ⟨β, M, v, vs, rm, rv, rs, ok⟩
  obtain ⟨i, zs, a, ys, ha, rfl, hy, r, ok⟩ := onL_at rm rv ok
  unfold bmInsert at ok
  split at ok
  · rename_i j z _
    obtain ⟨y, u, rfl, ry, ru⟩ := rs.two
    cases (show y = _ from ry)
    split at ok
    · rename_i hc
      have hl : LINE = 16777216 := rfl
      refine ⟨_, mt_insert, a, ys, j, u, rfl, rfl, hy, by rw [r.len, ← line_eq]; exact hc.2.2, hc.1, by omega, ?_⟩
      have : RVs c.G β H (zs.take j.toNat ++ z :: zs.drop j.toNat) (ys.take j.toNat ++ [u] ++ ys.drop j.toNat) := by
        rw [List.append_assoc]
        exact (r.take _).app ⟨u, _, rfl, ru, r.drop _⟩
      exact lst_wr rm ha ⟨_, hy⟩ ok this rfl
    · exact ok.elim
  · exact ok.elim
theorem mtM_clear {c : Cf} {X : Cx} : MtR X "list.clear" (rMt c .clear) := by
  refine MtR.dyn fun x xs H Q => ?_
  rintro ⟨β, M, v, vs, rm, rv, rs, ok⟩
  obtain ⟨i, zs, a, ys, ha, rfl, hy, r, ok⟩ := onL_at rm rv ok
  unfold bmClear at ok
  split at ok
  · cases (show xs = [] from rs)
    exact ⟨_, mt_clear, a, ys, rfl, rfl, hy, lst_wr rm ha ⟨_, hy⟩ ok (show RVs c.G β H [] [] from rfl) rfl⟩
  · exact ok.elim
/-- d.clear() -/
theorem mtM_dclear {c : Cf} {X : Cx} : MtR X "dict.clear" (rMt c .dclear) := by
  refine MtR.dyn fun x xs H Q => ?_
  rintro ⟨β, M, v, vs, rm, rv, rs, ok⟩
  simp only [bmM] at ok
  split at ok
  · rename_i a ep ks ws hv
    split at ok
    · cases (show xs = [] from rs)
      unfold dctAt at hv
      split at hv
      · rename_i i
        split at hv
        · rename_i ep' ks' ws' hi
          cases hv
          obtain ⟨d, hd, rfl⟩ := rv
          obtain ⟨kvs, hy, hk, r⟩ := rm.obj _ d _ hd hi
          have nf : ∀ od u, H d ≠ some (.frz od u) := fun od u z => by rw [hy] at z; cases z
          have st := Step.wr rm hd (.dK []) nf
          exact ⟨_, mtd_clear, d, kvs, rfl, rfl, hy, ok β _ st (rm.wr hd (.dK []) nf (.dct (ep + 1) [] []) ⟨[], upd_same, rfl, rfl⟩) _ rfl⟩
        · cases hv
      · cases hv
    · exact ok.elim
  · exact ok.elim
theorem mtM_join {c : Cf} {X : Cx} (hK : X.K = c.G.K) : MtR X "str.join" (rMt c .join) := by
  refine MtR.dyn fun x xs H Q => ?_
  rintro ⟨β, M, v, vs, rm, rv, rs, ok⟩
  simp only [bmM] at ok
  split at ok
  · rename_i s
    cases (show x = _ from rv)
    unfold bmJoin at ok
    split at ok
    · obtain ⟨y, rfl, ry⟩ := rs.one
      split at ok
      · rename_i l hl
        obtain ⟨zs, hz, hs⟩ := Option.bind_eq_some_iff.mp hl
        unfold seq? at hz
        split at hz
        · rename_i zs' hv
          cases hz
          obtain ⟨a, ys, rfl, f, r⟩ := seq_at rm ry hv
          have := strs_rv hs r
          subst this
          split at ok
          · rename_i hle
            exact ⟨_, mt_join, s, a, l, rfl, rfl, hK ▸ f, hle, ok β H Step.rfl' rm _ rfl⟩
          · exact ok.elim
        · cases hz
      · exact ok.elim
    · exact ok.elim
  · exact ok.elim
theorem mtM_split {c : Cf} {X : Cx} : MtR X "str.split" (rMt c .split) := by
  refine MtR.dyn fun x xs H Q => ?_
  rintro ⟨β, M, v, vs, rm, rv, rs, ok⟩
  simp only [bmM] at ok
  split at ok
  · rename_i s
    cases (show x = _ from rv)
    unfold bmSplit at ok
    split at ok
    · rename_i t
      obtain ⟨y, rfl, ry⟩ := rs.one
      cases (show y = _ from ry)
      split at ok
      · rename_i hc
        refine ⟨_, mt_split, s, t, rfl, rfl, by rw [beq_eq_false_iff_ne]; exact hc.1, by rw [← line_eq]; exact hc.2, fun p hp => ?_⟩
        exact ok β _ (Step.fresh _ hp) (rm.new _ hp) _ ⟨p, _, rfl, ⟨rm.fresh hp, upd_same⟩, strs_mk _⟩
      · exact ok.elim
    · exact ok.elim
  · exact ok.elim

/-! ### their calls -/
theorem OkR.toW {c : Cf} {w : Value → Option Addr → Hp → Prop} {β : List Addr} {H : Hp} {α : Type} {r : Res α} {k : List Addr → Mem → α → Hp → Prop} (h : OkR c w β H (Mi.noEx r) k) : OkR c NoW β H r k := h.noEx
theorem tE_bmG {c : Cf} {T : Tb} {N : List Str} {sc : Scope} {wx : WX} {X : Cx} (cx : Ctx0 c T N sc X) {o e : Expr} {es : List Expr} {k : BM} {name : Str} {Ty id : String} {apos pos : Pos} {mo : ME} {ms : List ME}
    (pa : PlainAttrs Ty) (sl : Slot Ty name id) (hty : typeOf (Value.builtin id) = pure (Value.type "method_descriptor")) (hm : MtR X id (rMt c k))
    (ty : ∀ {β M H v x}, RelM c.G β M H → RV c.G β H v x → bmOk M v k = true → tyV X.K Ty x H)
    (ho : PE X o (tE c wx mo)) (ha : PA X (e :: es) (tA c wx ms)) (hb : bareCall o = false) (hs : isStar e = false) (hss : es.all (fun e => !isStar e) = true) (hl : (e :: es).length < 30) (hp : (apos.endLine == pos.line) = true) :
    PE X (.Call (.Attribute o name apos) (e :: es) [] pos) (tE c wx (.bm mo k ms)) := by
  refine PE.imp (pe_bm pa sl hty hm ho ha (attrB hb) (form_ok (by simp [hs]; simpa using hss) hl) hp (notStar hs) (starsNil hss)) fun σ H Q => ?_
  rintro ⟨β, M, ρ, rm, rs, ok⟩
  rw [evalE] at ok
  refine ⟨β, M, ρ, rm, rs, ok.bind.imp fun β1 M1 v H1 st1 rm1 kk x rx => ?_⟩
  split at kk
  · rename_i hk
    refine ⟨ty rm1 rx hk, β1, M1, ρ, rm1, rs.step st1, kk.bind.imp fun β2 M2 us H2 st2 rm2 k2 xs rxs => ?_⟩
    exact ⟨β2, M2, v, us, rm2, RV.step st2 _ _ rx, rxs, k2.toW⟩
  · exact kk.elim
theorem tE_bm0 {c : Cf} {T : Tb} {N : List Str} {sc : Scope} {wx : WX} {X : Cx} (cx : Ctx0 c T N sc X) {o : Expr} {k : BM} {name : Str} {Ty id : String} {apos pos : Pos} {mo : ME}
    (pa : PlainAttrs Ty) (sl : Slot Ty name id) (hty : typeOf (Value.builtin id) = pure (Value.type "method_descriptor")) (hm : MtR X id (rMt c k))
    (ty : ∀ {β M H v x}, RelM c.G β M H → RV c.G β H v x → bmOk M v k = true → tyV X.K Ty x H)
    (ho : PE X o (tE c wx mo)) (hb : bareCall o = false) (hp : (apos.endLine == pos.line) = true) :
    PE X (.Call (.Attribute o name apos) [] [] pos) (tE c wx (.bm mo k [])) := by
  refine PE.imp (pe_bm0 pa sl hty hm ho (attrB hb) hp) fun σ H Q => ?_
  rintro ⟨β, M, ρ, rm, rs, ok⟩
  rw [evalE] at ok
  refine ⟨β, M, ρ, rm, rs, ok.bind.imp fun β1 M1 v H1 st1 rm1 kk x rx => ?_⟩
  split at kk
  · rename_i hk
    refine ⟨ty rm1 rx hk, β1, M1, v, [], rm1, rx, rfl, ?_⟩
    rw [evalEs] at kk
    exact kk.bind β1 H1 Step.rfl' rm1 |>.toW
  · exact kk.elim
theorem ty_list {c : Cf} {K : W.Frag} {k : BM} (hk : ∀ M v, bmOk M v k = (lstAt M v).isSome) : ∀ {β M H v x}, RelM c.G β M H → RV c.G β H v x → bmOk M v k = true → tyV K "list" x H := by
  intro β M H v x rm rv h
  rw [hk] at h
  obtain ⟨⟨i, xs⟩, hl⟩ := Option.isSome_iff_exists.mp h
  obtain ⟨a, ys, ha, rfl, hy, rs⟩ := lstAt_at rm rv hl
  exact .inl ⟨rfl, ys, .inl (.inl hy)⟩
theorem ty_dct {c : Cf} {K : W.Frag} : ∀ {β M H v x}, RelM c.G β M H → RV c.G β H v x → bmOk M v .dclear = true → tyV K "dict" x H := by
  intro β M H v x rm rv h
  simp only [bmOk, dctAt] at h
  split at h
  · rename_i i
    obtain ⟨d, hd, rfl⟩ := rv
    obtain ⟨o, ho, ro⟩ := rm.get hd
    rw [ho] at h
    cases o with
    | dct ep ks vs =>
      obtain ⟨kvs, hy, hk, r⟩ := ro
      exact .inr (.inr (.inl ⟨rfl, .inl ⟨kvs, hy⟩⟩))
    | _ => cases h
  · cases h
theorem ty_str {c : Cf} {K : W.Frag} {k : BM} (hk : ∀ M v, bmOk M v k = (match v with | .str _ => true | _ => false)) : ∀ {β M H v x}, RelM c.G β M H → RV c.G β H v x → bmOk M v k = true → tyV K "str" x H := by
  intro β M H v x rm rv h
  rw [hk] at h
  cases v with
  | str s => cases (show x = _ from rv); rfl
  | _ => cases h
/-- d.get(k) -/
theorem tE_get {c : Cf} {T : Tb} {N : List Str} {sc : Scope} {wx : WX} {X : Cx} (cx : Ctx c T N sc wx X) {o e : Expr} {apos pos : Pos} {mo me : ME} (ho : PE X o (tE c wx mo)) (he : PE X e (tE c wx me)) (hb : bareCall o = false) (hs : isStar e = false) (hp : (apos.endLine == pos.line) = true) :
    PE X (.Call (.Attribute o (Str.ofString "get") apos) [e] [] pos) (tE c wx (.bm mo .get [me])) := by
  have hu := cx.units
  refine PE.imp (pe_dget1 (by omega) ho he ⟨attrB hb, form_ok (by simp [hs]) (by simp), hp, by rw [notStar hs]; rfl⟩) fun σ H Q => ?_
  rintro ⟨β, M, ρ, rm, rs, ok⟩
  rw [evalE] at ok
  refine ⟨β, M, ρ, rm, rs, ok.bind.imp fun β1 M1 v H1 st1 rm1 kk x rx => ?_⟩
  split at kk
  · rename_i hk
    obtain ⟨⟨ks, ws⟩, hl⟩ := Option.isSome_iff_exists.mp hk
    unfold dict? at hl
    split at hl
    · rename_i ks' ws' hv
      cases hl
      obtain ⟨a, kvs, rfl, rd, rfl, r⟩ := dict_at rm1 rx hv
      refine ⟨a, rfl, .inl ⟨kvs, rd⟩, β1, M1, ρ, rm1, rs.step st1, ?_⟩
      rw [evalEs] at kk
      refine kk.bind.bind.imp fun β2 M2 u H2 st2 rm2 k2 y ry => ?_
      rw [evalEs] at k2
      have k3 := (k2.bind β2 H2 Step.rfl' rm2 β2 H2 Step.rfl' rm2).toW
      simp only [bmM] at k3
      split at k3
      · rename_i ks2 ws2 hd
        unfold dict? at hd
        split at hd
        · rename_i ks3 ws3 hv2
          cases hd
          obtain ⟨a2, kvs2, e2, rd2, rfl, r2⟩ := dict_at rm2 (RV.step st2 _ _ rx) hv2
          cases e2
          simp only [bmGet] at k3
          split at k3
          · rename_i hk2
            obtain ⟨kk, rfl⟩ := isK_k hk2
            cases ry.kV
            refine ⟨valV kvs2 kk, .inl ⟨kvs2, kk, rd2, rfl, rfl⟩, ?_⟩
            refine k3 β2 H2 Step.rfl' rm2 _ ?_
            cases hg : dget (kvs2.map fun p => kM p.1) ws2 (kM kk) with
            | none => rw [dget_none r2 hg]; exact rfl
            | some w =>
              obtain ⟨z, hz, rz⟩ := dget_some r2 hg
              rw [hz]; exact rz
          · exact k3.elim
        · cases hd
      · exact k3.elim
    · cases hl
  · exact kk.elim
end Mi
/-! Mini, part N: isinstance, {} . -/
set_option autoImplicit false
set_option linter.all false
namespace Mi
open PySem L2

theorem kit_tab {K : W.Frag} : ∀ t ∈ ["NoneType", "bool", "int", "str", "tuple", "list", "dict"], ∀ c ∈ ["bool", "int", "str", "tuple", "list", "dict"], W.kitOne K (.type t) (.type c) = some (t == c || (t == "bool" && c == "int")) := by
  intro t ht c hc
  simp only [List.mem_cons, List.mem_nil_iff, or_false] at ht hc
  rcases ht with rfl | rfl | rfl | rfl | rfl | rfl | rfl <;> rcases hc with rfl | rfl | rfl | rfl | rfl | rfl <;> exact kit_ty (by decide +kernel)
theorem tE_isinst {c : Cf} {T : Tb} {N : List Str} {sc : Scope} {wx : WX} {X : Cx} (cx : Ctx0 c T N sc X) {e : Expr} {p p2 pos : Pos} {m : ME} {t : String} (ht : t ∈ ["bool", "int", "str", "tuple", "list", "dict"]) (hv : bootBuiltins (Str.ofString t) = some (.type t)) (hf : (Str.ofString t) ∈ T.frees) (hg : Gl X (Str.ofString t)) (hn : okN (Str.ofString t) = true) (hf0 : (Str.ofString "isinstance") ∈ T.frees) (hg0 : Gl X (Str.ofString "isinstance")) (hs : isStar e = false) (he : PE X e (tE c wx m)) :
    PE X (.Call (.Name (Str.ofString "isinstance") p) [e, .Name (Str.ofString t) p2] [] pos) (tE c wx (.isinst m t)) := by
  have h2 : PE X (.Name (Str.ofString t) p2) (tC (.ty t)) := pe_bltn hg (cx.mg ▸ cx.stat.free _ hf) hv rfl (okN_n hn) (okN_d hn)
  refine PE.imp (pe_callB call_isi hg0 (cx.mg ▸ cx.stat.free _ hf0) (by decide +kernel) (pa_cons he (pa_cons h2 pa_nil) (notStar hs)) (by decide +kernel) (by decide +kernel) (notStar hs) rfl) fun σ H Q => ?_
  rintro ⟨β, M, ρ, rm, rs, ok⟩
  rw [evalE] at ok
  refine ⟨β, M, ρ, rm, rs, ok.bind.imp fun β1 M1 v H1 st1 rm1 k x rx => ?_⟩
  obtain ⟨z, hz, gv⟩ := gv_of k
  obtain ⟨b, hb, rfl⟩ := Option.map_eq_some_iff.mp hz
  obtain ⟨n, hn, rfl⟩ := Option.map_eq_some_iff.mp hb
  obtain ⟨tx, hm⟩ := tyNm_at rm1 rx hn
  exact ⟨x, .ty t, .type n, .type t, _, rfl, .ty t, cx.K ▸ tx, kit_tab n hm t ht, gv.now rm1 rfl⟩
theorem tE_isown {c : Cf} {T : Tb} {N : List Str} {sc : Scope} {wx : WX} {X : Cx} (cx : Ctx c T N sc wx X) {e : Expr} {p p2 pos : Pos} {m : ME} {cn : Str} (hg : Gl X cn) (hn : okN cn = true) (hc : (clsOf c.P cn).isSome = true) (hf0 : (Str.ofString "isinstance") ∈ T.frees) (hg0 : Gl X (Str.ofString "isinstance")) (hs : isStar e = false) (he : PE X e (tE c wx m)) :
    PE X (.Call (.Name (Str.ofString "isinstance") p) [e, .Name cn p2] [] pos) (tE c wx (.isown m cn)) := by
  obtain ⟨d, hd⟩ := Option.isSome_iff_exists.mp hc
  obtain ⟨C, ci⟩ := cx.stat.cls cn d hd
  have hnm : d.nm = cn := by simpa using List.find?_some hd
  have h2 : PE X (.Name cn p2) (tC (.ref C)) := pe_glob hg (by rw [cx.mg, ← hnm]; exact ci.mg) rfl (okN_d hn)
  refine PE.imp (pe_callB call_isi hg0 (cx.mg ▸ cx.stat.free _ hf0) (by decide +kernel) (pa_cons he (pa_cons h2 pa_nil) (notStar hs)) (by decide +kernel) (by decide +kernel) (notStar hs) rfl) fun σ H Q => ?_
  rintro ⟨β, M, ρ, rm, rs, ok⟩
  rw [evalE] at ok
  refine ⟨β, M, ρ, rm, rs, ok.bind.imp fun β1 M1 v H1 st1 rm1 k x rx => ?_⟩
  split at k
  · rename_i cn' ns vs hv
    split at k
    · rename_i hcn
      obtain ⟨rfl, _⟩ := hcn
      obtain ⟨a, C1, dx, ys, rfl, hc1, hi1, hl1, r1⟩ := fields_at rm1 rx hv
      have := ci.at_
      rw [hnm, hc1] at this; cases this
      refine ⟨_, .ref C, .ref C, .ref C, true, rfl, .own C, .base (.ins hi1 (cx.K ▸ ci.cls) (cx.K ▸ ci.ty.1) (cx.K ▸ ci.ty.2.1) (cx.K ▸ ci.ty.2.2.1) (cx.K ▸ ci.ty.2.2.2)), ?_, k β1 H1 Step.rfl' rm1 _ rfl⟩
      simp [W.kitOne]
    · exact k.elim
  · split at k
    · rename_i ht
      obtain ⟨n, hn⟩ := Option.isSome_iff_exists.mp ht
      obtain ⟨tx, hm⟩ := tyNm_at rm1 rx hn
      exact ⟨x, .ref C, .type n, .ref C, false, rfl, .own C, cx.K ▸ tx, cx.K ▸ (ci.oth n hm).2, k β1 H1 Step.rfl' rm1 _ rfl⟩
    · exact k.elim
/-- {} -/
theorem tF_dct0 {c : Cf} {wx : WX} {X : Cx} {pos : Pos} : PE X (.Dict [] [] pos) (tF c wx (.dctE [])) := by
  refine PE.imp pe_dnewK fun σ H Q => ?_
  rintro ⟨β, M, ρ, rm, rs, ok⟩
  rw [evalE, evalPs] at ok
  intro p hp
  exact ok β H Step.rfl' rm p _ hp ⟨[], rfl, rfl, rfl⟩
end Mi
/-! Mini, part O: hidden places, what is walked, targets. -/
set_option autoImplicit false
set_option linter.all false
namespace Mi
open PySem L2

def Wd.hide (G : Wd) (D : Addr) : Wd := { G with hid := D :: G.hid }
def Cf.hide (c : Cf) (D : Addr) : Cf := { c with G := c.G.hide D }
def del (H : Hp) (D : Addr) : Hp := fun b => if b = D then none else H b
theorem del_ne {H : Hp} {D b : Addr} (h : b ≠ D) : del H D b = H b := if_neg h
theorem del_same {H : Hp} {D : Addr} : del H D D = none := if_pos rfl
theorem upd_del {H : Hp} {D : Addr} {o : HO} (h : H D = some o) : upd (del H D) D o = H := by
  funext b
  by_cases e : b = D
  · subst e; rw [upd_same, h]
  · rw [upd_ne e, del_ne e]
/-- two heaps alike but at D -/
def Alike (D : Addr) (H H' : Hp) : Prop := ∀ b, b ≠ D → H' b = H b
theorem Alike.upd {D : Addr} {H : Hp} (o : HO) : Alike D H (upd H D o) := fun b h => upd_ne h
theorem Alike.del {D : Addr} {H : Hp} : Alike D H (del H D) := fun b h => del_ne h
mutual
/-- a value that doesn't name D doesn't care what stands there -/
theorem RV.alike {G : Wd} {β : List Addr} {D : Addr} {H H' : Hp} (hD : D ∈ G.hid) (al : Alike D H H') : ∀ {v : MV} {x : V}, RV G β H v x → RV G β H' v x
  | .non, _, h => h
  | .bl _, _, h => h
  | .int _, _, h => h
  | .str _, _, h => h
  | .tup xs, x, ⟨a, ys, e, f, r⟩ => ⟨a, ys, e, f.elim (fun f => .inl ⟨f.1, (al a fun z => f.1.2 (z ▸ hD)).trans f.2⟩) .inr, RVs.alike hD al r⟩
  | .fls xs, x, ⟨a, ys, e, f, r⟩ => ⟨a, ys, e, ⟨f.1, (al a fun z => f.1.2 (z ▸ hD)).trans f.2⟩, RVs.alike hD al r⟩
  | .scr xs, x, ⟨a, ys, e, f, r⟩ => ⟨a, ys, e, f.elim (fun f => .inl ⟨f.1, by
      have := al a fun z => f.1.2 (z ▸ hD)
      rcases f.2 with h | ⟨o, h⟩
      · exact .inl (this.trans h)
      · exact .inr ⟨o, this.trans h⟩⟩) .inr, RVs.alike hD al r⟩
  | .fdc ks vs, x, ⟨a, kvs, e, n, rd, hk, r⟩ => ⟨a, kvs, e, n, by
      have := al a fun z => n.2 (z ▸ hD)
      rcases rd with h | ⟨o, h⟩
      · exact .inl (this.trans h)
      · exact .inr ⟨o, this.trans h⟩, hk, RVs.alike hD al r⟩
  | .obj _ _ vs, x, ⟨a, C, dx, ys, e, n, hc, hi, hl, r⟩ => ⟨a, C, dx, ys, e, n, hc, (al a fun z => n.2 (z ▸ hD)).trans hi, hl, RVs.alike hD al r⟩
  | .exn _ _ vs, x, ⟨a, C, dx, ys, fs, e, n, n2, hc, hi, hd, lk, hl, r⟩ => ⟨a, C, dx, ys, fs, e, n, n2, hc, (al a fun z => n.2 (z ▸ hD)).trans hi, (al dx fun z => n2.2 (z ▸ hD)).trans hd, lk, hl, RVs.alike hD al r⟩
  | .ref i, x, h => h
theorem RVs.alike {G : Wd} {β : List Addr} {D : Addr} {H H' : Hp} (hD : D ∈ G.hid) (al : Alike D H H') : ∀ {vs : List MV} {xs : List V}, RVs G β H vs xs → RVs G β H' vs xs
  | [], _, h => h
  | v :: vs, xs, ⟨y, t, e, r, rs⟩ => ⟨y, t, e, RV.alike hD al r, RVs.alike hD al rs⟩
end
mutual
/-- a free place is hidden -/
theorem RV.hide {G : Wd} {β : List Addr} {D : Addr} {H : Hp} (hD : H D = none) : ∀ {v : MV} {x : V}, RV G β H v x → RV (G.hide D) β H v x
  | .non, _, h => h
  | .bl _, _, h => h
  | .int _, _, h => h
  | .str _, _, h => h
  | .tup xs, x, ⟨a, ys, e, f, r⟩ => ⟨a, ys, e, f.elim (fun f => .inl ⟨⟨f.1.1, fun m => (List.mem_cons.mp m).elim (fun z => by subst z; rw [hD] at f; cases f.2) f.1.2⟩, f.2⟩) .inr, RVs.hide hD r⟩
  | .fls xs, x, ⟨a, ys, e, f, r⟩ => ⟨a, ys, e, ⟨⟨f.1.1, fun m => (List.mem_cons.mp m).elim (fun z => by subst z; rw [hD] at f; cases f.2) f.1.2⟩, f.2⟩, RVs.hide hD r⟩
  | .scr xs, x, ⟨a, ys, e, f, r⟩ => ⟨a, ys, e, f.elim (fun f => .inl ⟨⟨f.1.1, fun m => (List.mem_cons.mp m).elim (fun z => by
      subst z
      rcases f.2 with h | ⟨o, h⟩ <;> (rw [hD] at h; cases h)) f.1.2⟩, f.2⟩) .inr, RVs.hide hD r⟩
  | .fdc ks vs, x, ⟨a, kvs, e, n, rd, hk, r⟩ => ⟨a, kvs, e, ⟨n.1, fun m => (List.mem_cons.mp m).elim (fun z => by
      subst z
      rcases rd with h | ⟨o, h⟩ <;> (rw [hD] at h; cases h)) n.2⟩, rd, hk, RVs.hide hD r⟩
  | .obj _ _ vs, x, ⟨a, C, dx, ys, e, n, hc, hi, hl, r⟩ => ⟨a, C, dx, ys, e, ⟨n.1, fun m => (List.mem_cons.mp m).elim (fun z => by subst z; rw [hD] at hi; cases hi) n.2⟩, hc, hi, hl, RVs.hide hD r⟩
  | .exn _ _ vs, x, ⟨a, C, dx, ys, fs, e, n, n2, hc, hi, hd, lk, hl, r⟩ => ⟨a, C, dx, ys, fs, e, ⟨n.1, fun m => (List.mem_cons.mp m).elim (fun z => by subst z; rw [hD] at hi; cases hi) n.2⟩, ⟨n2.1, fun m => (List.mem_cons.mp m).elim (fun z => by subst z; rw [hD] at hd; cases hd) n2.2⟩, hc, hi, hd, lk, hl, RVs.hide hD r⟩
  | .ref i, x, h => h
theorem RVs.hide {G : Wd} {β : List Addr} {D : Addr} {H : Hp} (hD : H D = none) : ∀ {vs : List MV} {xs : List V}, RVs G β H vs xs → RVs (G.hide D) β H vs xs
  | [], _, h => h
  | v :: vs, xs, ⟨y, t, e, r, rs⟩ => ⟨y, t, e, RV.hide hD r, RVs.hide hD rs⟩
end
mutual
/-- .. and shown again -/
theorem RV.unhide {G : Wd} {β : List Addr} {D : Addr} {H : Hp} : ∀ {v : MV} {x : V}, RV (G.hide D) β H v x → RV G β H v x
  | .non, _, h => h
  | .bl _, _, h => h
  | .int _, _, h => h
  | .str _, _, h => h
  | .tup xs, x, ⟨a, ys, e, f, r⟩ => ⟨a, ys, e, f.elim (fun f => .inl ⟨⟨f.1.1, fun m => f.1.2 (List.mem_cons_of_mem _ m)⟩, f.2⟩) .inr, RVs.unhide r⟩
  | .fls xs, x, ⟨a, ys, e, f, r⟩ => ⟨a, ys, e, ⟨⟨f.1.1, fun m => f.1.2 (List.mem_cons_of_mem _ m)⟩, f.2⟩, RVs.unhide r⟩
  | .scr xs, x, ⟨a, ys, e, f, r⟩ => ⟨a, ys, e, f.elim (fun f => .inl ⟨⟨f.1.1, fun m => f.1.2 (List.mem_cons_of_mem _ m)⟩, f.2⟩) .inr, RVs.unhide r⟩
  | .fdc ks vs, x, ⟨a, kvs, e, n, rd, hk, r⟩ => ⟨a, kvs, e, ⟨n.1, fun m => n.2 (List.mem_cons_of_mem _ m)⟩, rd, hk, RVs.unhide r⟩
  | .obj _ _ vs, x, ⟨a, C, dx, ys, e, n, hc, hi, hl, r⟩ => ⟨a, C, dx, ys, e, ⟨n.1, fun m => n.2 (List.mem_cons_of_mem _ m)⟩, hc, hi, hl, RVs.unhide r⟩
  | .exn _ _ vs, x, ⟨a, C, dx, ys, fs, e, n, n2, hc, hi, hd, lk, hl, r⟩ => ⟨a, C, dx, ys, fs, e, ⟨n.1, fun m => n.2 (List.mem_cons_of_mem _ m)⟩, ⟨n2.1, fun m => n2.2 (List.mem_cons_of_mem _ m)⟩, hc, hi, hd, lk, hl, RVs.unhide r⟩
  | .ref i, x, h => h
theorem RVs.unhide {G : Wd} {β : List Addr} {D : Addr} {H : Hp} : ∀ {vs : List MV} {xs : List V}, RVs (G.hide D) β H vs xs → RVs G β H vs xs
  | [], _, h => h
  | v :: vs, xs, ⟨y, t, e, r, rs⟩ => ⟨y, t, e, RV.unhide r, RVs.unhide rs⟩
end
theorem RO.map {G G' : Wd} {β : List Addr} {H H' : Hp} {o : MO} {a : Addr} (hc : G'.cls = G.cls) (hv : ∀ {vs : List MV} {xs : List V}, RVs G β H vs xs → RVs G' β H' vs xs) (e : H' a = H a) (h : RO G β H o a) : RO G' β H' o a := by
  cases o with
  | lst xs => obtain ⟨ys, h, r⟩ := h; exact ⟨ys, e.trans h, hv r⟩
  | dct ep ks vs => obtain ⟨ys, h, k, r⟩ := h; exact ⟨ys, e.trans h, k, hv r⟩
  | ins c ns vs => obtain ⟨C, dx, ys, c, h, l, r⟩ := h; exact ⟨C, dx, ys, hc ▸ c, e.trans h, l, hv r⟩
  | dead => exact fun z => h (e ▸ z)
  | lck ks vs => obtain ⟨od, ys, h, k, r⟩ := h; exact ⟨od, ys, e.trans h, k, hv r⟩
theorem RelM.hide {G : Wd} {β : List Addr} {M : Mem} {H : Hp} {D : Addr} (h : RelM G β M H) (hD : H D = none) (o : HO) : RelM (G.hide D) β M (upd H D o) := by
  have h' := h.new o hD
  refine ⟨h.nd, h.len, fun i a u hi hu => ?_, fun b hb m => ?_, fun b hb => ?_⟩
  · have hne : a ≠ D := fun z => (h.fresh hD).1 (z ▸ List.mem_iff_getElem?.mpr ⟨i, hi⟩)
    exact RO.map (G := G) (G' := G.hide D) rfl (fun r => RVs.alike (List.mem_cons_self ..) (Alike.upd o) (RVs.hide hD r)) (upd_ne hne) (h.obj i a u hi hu)
  · rcases List.mem_cons.mp m with z | m
    · subst z; exact (h.fresh hD).1 hb
    · exact h.dis b hb m
  · rcases List.mem_cons.mp hb with z | m
    · subst z; rw [upd_same]; simp
    · exact upd_some (h.hid b m)
theorem RelM.alike {G : Wd} {β : List Addr} {M : Mem} {H H' : Hp} {D : Addr} (h : RelM G β M H) (hD : D ∈ G.hid) (al : Alike D H H') (hs : H' D ≠ none) : RelM G β M H' := by
  refine ⟨h.nd, h.len, fun i a u hi hu => ?_, h.dis, fun b hb => ?_⟩
  · have hne : a ≠ D := fun z => h.dis a (List.mem_iff_getElem?.mpr ⟨i, hi⟩) (z ▸ hD)
    exact RO.map rfl (fun r => RVs.alike hD al r) (al a hne) (h.obj i a u hi hu)
  · by_cases e : b = D
    · subst e; exact hs
    · rw [al b e]; exact h.hid b hb
theorem RelM.unhide {G : Wd} {β : List Addr} {M : Mem} {H : Hp} {D : Addr} (h : RelM (G.hide D) β M H) (n : D ∉ G.hid) : RelM G β M (del H D) := by
  refine ⟨h.nd, h.len, fun i a u hi hu => ?_, fun b hb m => h.dis b hb (List.mem_cons_of_mem _ m), fun b hb => ?_⟩
  · have hne : a ≠ D := fun z => h.dis a (List.mem_iff_getElem?.mpr ⟨i, hi⟩) (z ▸ List.mem_cons_self ..)
    exact RO.map (G := G.hide D) (G' := G) rfl (fun r => RVs.unhide (RVs.alike (List.mem_cons_self ..) Alike.del r)) (del_ne hne) (h.obj i a u hi hu)
  · have : b ≠ D := fun z => n (z ▸ hb)
    rw [del_ne this]
    exact h.hid b (List.mem_cons_of_mem _ hb)
theorem RelS.map {G G' : Wd} {β : List Addr} {H H' : Hp} {ρ : Env} {σ : St} (hv : ∀ {v : MV} {x : V}, RV G β H v x → RV G' β H' v x) (h : RelS G β H ρ σ) : RelS G' β H' ρ σ := ⟨h.1, fun i v hi => by
  obtain ⟨x, hx, r⟩ := h.2 i v hi
  exact ⟨x, hx, hv r⟩⟩
/-- the heap goes on, D being hidden from the start on -/
theorem Step.under {G : Wd} {β β1 β2 : List Addr} {H H1 H2 : Hp} {D : Addr} (a : Step G β H β1 H1) (hD : H D = none) (b : Step (G.hide D) β1 H1 β2 H2) : Step G β H β2 H2 := by
  refine ⟨a.pre.trans b.pre, fun p hp n => ?_, fun p o h n => ?_, fun p o hp h => b.keepH p o (List.mem_cons_of_mem _ hp) (a.keepH p o hp h), fun p od u h => b.keepF p od u (a.keepF p od u h)⟩
  · by_cases h1 : p ∈ β1
    · exact a.new p h1 n
    · cases e : H p with
      | none => rfl
      | some o =>
        have h2 := b.new p hp h1
        by_cases hh : p ∈ G.hid
        · rw [a.keepH p o hh e] at h2; cases h2
        · obtain ⟨o', h', _⟩ := a.keepL p o e ⟨n, hh⟩; rw [h2] at h'; cases h'
  · obtain ⟨o1, h1, l1⟩ := a.keepL p o h n
    have no := a.out n h
    have hne : p ≠ D := fun z => by subst z; rw [hD] at h; cases h
    obtain ⟨o2, h2, l2⟩ := b.keepL p o1 h1 ⟨no.1, fun m => (List.mem_cons.mp m).elim hne no.2⟩
    exact ⟨o2, h2, l1.trans l2⟩
theorem Step.alike {G : Wd} {β β1 : List Addr} {H H1 H2 : Hp} {D : Addr} (a : Step G β H β1 H1) (hD : H D = none) (al : Alike D H1 H2) : Step G β H β1 H2 := by
  refine ⟨a.pre, a.new, fun p o h n => ?_, fun p o hp h => ?_, fun p od u h => ?_⟩
  · have hne : p ≠ D := fun z => by subst z; rw [hD] at h; cases h
    obtain ⟨o1, h1, l1⟩ := a.keepL p o h n
    exact ⟨o1, (al p hne).trans h1, l1⟩
  · have hne : p ≠ D := fun z => by subst z; rw [hD] at h; cases h
    exact (al p hne).trans (a.keepH p o hp h)
  · have hne : p ≠ D := fun z => by subst z; rw [hD] at h; cases h
    exact (al p hne).trans (a.keepF p od u h)
/-! ### the contexts of a comprehension -/
theorem ClsI.hide {G : Wd} {d : CDef} {C D : Addr} (h : ClsI G d C) : ClsI (G.hide D) d C := ⟨h.at_, h.cls, h.mg, h.first, h.make_, h.meth, h.prop, h.fld, h.ty, h.ne_, h.oth⟩
theorem Stat.hide {G : Wd} {P : MProg} {T : Tb} {D : Addr} (h : Stat G P T) : Stat (G.hide D) P T := ⟨h.sys, h.plain, h.fn, h.keep, h.bind, h.free, h.glob, fun n d hd => by
  obtain ⟨C, ci⟩ := h.cls n d hd
  exact ⟨C, ci.hide⟩, h.kws, h.kwm, fun n d hd => by
  obtain ⟨C, ci⟩ := h.exc n d hd
  exact ⟨C, ⟨ci.at_, ci.mg, ci.oex, ci.xf, ci.fld, ci.len, ci.isx, ci.isv⟩⟩, h.exm⟩
def relS (scope sc : Scope) : Scope := { scope with names := scope.names.map fun x => if x.2 == NameKind.free && sc.kind == ScopeKind.function && sc.names.lookup x.1 == some NameKind.cell then (x.1, NameKind.cell) else x }
theorem relabel_eq (scope : Scope) (env : PySem.Env) : relabel scope env = relS scope env.scope := rfl
abbrev NoX : WX := fun _ _ _ _ => False
theorem Ctx.blk {c : Cf} {T : Tb} {N : List Str} {sc : Scope} {wx : WX} {X : Cx} (cx : Ctx c T N sc wx X) (D : Addr) (s : Shared) (H : Hp) (scope : Scope) (C : Addr) (cl : List (Str × Addr)) (fp : List Addr) : Ctx (c.hide D) T N (relS scope sc) NoX (X.blk s H scope (compEnvC scope cl C X.env) fp) where
  K := cx.K
  mg := cx.mg
  names := cx.names
  scope := by
    show relabel scope X.env = _
    rw [relabel_eq, cx.scope]
  nd := cx.nd
  calm := cx.calm
  room := cx.room
  quiet := cx.quiet
  stat := cx.stat.hide
  fns := fun φ => cx.fns φ
  pa := by
    rintro σ pins H s e s' I ⟨a, B, H', cl, d, _, _, _, _, _, _, _, h⟩
    exact h.elim
  po := PassesOwn.never
  xin := cx.xin
end Mi
/-! Mini, part P: targets, sources, comprehensions. -/
set_option autoImplicit false
set_option linter.all false
namespace Mi
open PySem L2

def SameBut (vs : List Nat) (σ σ' : St) : Prop := σ'.length = σ.length ∧ ∀ i, i ∉ vs → σ'[i]? = σ[i]?
theorem SameBut.rfl' {vs : List Nat} {σ : St} : SameBut vs σ σ := ⟨rfl, fun _ _ => rfl⟩
theorem wipe_at : ∀ (vs : List Nat) (σ : St) (i : Nat), (wipe σ vs)[i]? = if i ∈ vs then (if i < σ.length then some none else none) else σ[i]?
  | [], σ, i => by simp [wipe]
  | v :: vs, σ, i => by
    have ih := wipe_at vs σ i
    show ((wipe σ vs).set v none)[i]? = _
    by_cases e : v = i
    · subst e
      rw [List.getElem?_set_self']
      have hl : (wipe σ vs)[v]? = if v ∈ vs then (if v < σ.length then some none else none) else σ[v]? := ih
      simp only [List.mem_cons, true_or, if_true]
      rw [hl]
      by_cases m : v ∈ vs
      · simp only [m, if_true]
        split <;> rfl
      · simp only [m, if_false]
        by_cases l : v < σ.length
        · simp [l]
        · simp [l]
    · rw [List.getElem?_set_ne e, ih]
      have : (i ∈ v :: vs) ↔ i ∈ vs := by simp [Ne.symm e]
      simp only [this]
theorem wipe_same {vs : List Nat} {σ σ2 : St} (h : SameBut vs (wipe σ vs) σ2) : wipe σ2 vs = wipe σ vs := by
  apply List.ext_getElem?
  intro i
  have hl : (wipe σ vs).length = σ.length := wipe_length ..
  rw [wipe_at, wipe_at]
  by_cases m : i ∈ vs
  · simp only [m, if_true]
    rw [h.1, hl]
  · simp only [m, if_false]
    have := h.2 i m
    rw [wipe_at] at this
    simpa [m] using this
theorem RelS.wipe {G : Wd} {β : List Addr} {H : Hp} {ρ : Env} {σ : St} (h : RelS G β H ρ σ) : ∀ vs, RelS G β H (wipeE ρ vs) (L2.wipe σ vs)
  | [] => h
  | v :: vs => (RelS.wipe h vs).unset v

/-! ### targets -/
def tG (c : Cf) (wx : WX) (tg : MT) (vs : List Nat) : TG := fun v σ H Q => ∃ β M ρ m, RelM c.G β M H ∧ RelS c.G β H ρ σ ∧ RV c.G β H m v ∧ OkR c (fun cl d => wx cl d σ) β H (asgT c.P c.cal tg m ρ M) (fun β' _ ρ' H' => ∀ σ', RelS c.G β' H' ρ' σ' → SameBut vs σ σ' → Q σ' H')
def tGs (c : Cf) (wx : WX) (ts : List MT) (vs : List Nat) : TGs := fun xs σ H Q => ∃ β M ρ ms, RelM c.G β M H ∧ RelS c.G β H ρ σ ∧ RVs c.G β H ms xs ∧ OkR c (fun cl d => wx cl d σ) β H (asgTs c.P c.cal ts ms ρ M) (fun β' _ ρ' H' => ∀ σ', RelS c.G β' H' ρ' σ' → SameBut vs σ σ' → Q σ' H')
theorem PG.imp {X : Cx} {e : Expr} {t t' : TG} (p : PG X e t') (h : ∀ v σ H Q, t v σ H Q → t' v σ H Q) : PG X e t :=
  ⟨fun pins s σ H v u Q I r ht => p.run pins s σ H v u Q I r (h v σ H Q ht)⟩
theorem PGs.imp {X : Cx} {e : List Expr} {t t' : TGs} (p : PGs X e t') (h : ∀ v σ H Q, t v σ H Q → t' v σ H Q) : PGs X e t :=
  ⟨fun pins s σ H v u Q I r ht => p.run pins s σ H v u Q I r (h v σ H Q ht)⟩
theorem sameBut_set {i : Nat} {σ : St} {x : V} : SameBut [i] σ (σ.set i (some x)) := ⟨by simp, fun j hj => by
  rw [List.getElem?_set_ne]; intro e; exact hj (by simp [e])⟩
theorem tG_var {c : Cf} {T : Tb} {N : List Str} {sc : Scope} {wx : WX} {X : Cx} (cx : Ctx0 c T N sc X) {i : Nat} {x : Str} {pos : Pos} (hi : N[i]? = some x) (hl : L2.Loc sc x) (hf : X.fn x = true ∨ sc.names.lookup x = some .local) : PG X (.Name x pos) (tG c wx (.var i) [i]) := by
  refine PG.imp (pg_name (by rw [cx.names]; exact cx.nd) (by rw [cx.names]; exact hi) (by rw [cx.scope]; exact hl) (by rw [cx.scope]; exact hf)) fun v σ H Q => ?_
  rintro ⟨β, M, ρ, m, rm, rs, rv, ok⟩
  rw [asgT] at ok
  split at ok
  · exact ok β H Step.rfl' rm _ (rs.set i rv) sameBut_set
  · exact ok.elim
theorem tGs_nil {c : Cf} {wx : WX} {X : Cx} : PGs X [] (tGs c wx [] []) := by
  refine PGs.imp pgs_nil fun v σ H Q => ?_
  rintro ⟨β, M, ρ, ms, rm, rs, rv, ok⟩
  cases ms with
  | nil =>
    rw [asgTs] at ok
    exact ⟨rv, ok β H Step.rfl' rm _ rs SameBut.rfl'⟩
  | cons m ms => rw [asgTs] at ok; exact ok.elim; all_goals simp
theorem SameBut.trans {us vs : List Nat} {σ σ1 σ2 : St} (a : SameBut us σ σ1) (b : SameBut vs σ1 σ2) : SameBut (us ++ vs) σ σ2 := ⟨b.1.trans a.1, fun i hi => by
  have h1 : i ∉ us := fun m => hi (List.mem_append_left _ m)
  have h2 : i ∉ vs := fun m => hi (List.mem_append_right _ m)
  rw [b.2 i h2, a.2 i h1]⟩
/-- in a block where nothing is raised -/
theorem tGs_cons {c : Cf} {T : Tb} {N : List Str} {sc : Scope} {wx : WX} {X : Cx} (cx : Ctx c T N sc wx X) (hw : ∀ cl d σ σ' H, wx cl d σ H → wx cl d σ' H ∨ True) {i : Nat} {x : Str} {pos : Pos} {es : List Expr} {ts : List MT} {vs : List Nat} (hi : N[i]? = some x) (hl : L2.Loc sc x) (hf : X.fn x = true ∨ sc.names.lookup x = some .local) (h : PGs X es (tGs c NoX ts vs)) : PGs X (.Name x pos :: es) (tGs c NoX (.var i :: ts) (i :: vs)) := by
  refine PGs.imp (pgs_cons (pg_name (by rw [cx.names]; exact cx.nd) (by rw [cx.names]; exact hi) (by rw [cx.scope]; exact hl) (by rw [cx.scope]; exact hf)) h (by rfl)) fun v σ H Q => ?_
  rintro ⟨β, M, ρ, ms, rm, rs, rv, ok⟩
  cases ms with
  | nil => rw [asgTs] at ok; exact ok.elim; all_goals simp
  | cons m ms =>
    obtain ⟨y, t, rfl, ry, rt⟩ := rv
    rw [asgTs, asgT] at ok
    refine ⟨y, t, rfl, ?_⟩
    split at ok
    · refine ⟨β, M, ρ.set i (some m), ms, rm, rs.set i ry, rt, OkR.imp ok fun β' M' ρ' H' st rm' k σ' rs' sb => k σ' rs' ?_⟩
      exact (sameBut_set (i := i) (σ := σ) (x := y)).trans sb
    · exact ok.elim
theorem asgTs_noEx {c : Cf} {w w' : Value → Option Addr → Hp → Prop} {β : List Addr} {H : Hp} {k : List Addr → Mem → Env → Hp → Prop} : ∀ {ts : List MT} {ms : List MV} {ρ : Env} {M : Mem}, (∀ t ∈ ts, ∃ i, t = .var i) → OkR c w β H (asgTs c.P c.cal ts ms ρ M) k → OkR c w' β H (asgTs c.P c.cal ts ms ρ M) k
  | [], [], ρ, M, _, h => by rw [asgTs] at h ⊢; exact h
  | [], m :: ms, ρ, M, _, h => by rw [asgTs] at h; exact h.elim; all_goals simp
  | t :: ts, [], ρ, M, _, h => by rw [asgTs] at h; exact h.elim; all_goals simp
  | t :: ts, m :: ms, ρ, M, ht, h => by
    obtain ⟨i, rfl⟩ := ht t (List.mem_cons_self ..)
    rw [asgTs, asgT] at h ⊢
    split at h
    · rename_i hl
      rw [if_pos hl]
      exact asgTs_noEx (fun t m => ht t (List.mem_cons_of_mem _ m)) h
    · exact h.elim
theorem tG_tup {c : Cf} {T : Tb} {N : List Str} {sc : Scope} {wx : WX} {X : Cx} (cx : Ctx c T N sc wx X) {es : List Expr} {k : Nat} {pos : Pos} {ts : List MT} {vs : List Nat} (hv : ∀ t ∈ ts, ∃ i, t = .var i) (h : PGs X es (tGs c NoX ts vs)) (h1 : (assignEach es X.env).length = ts.length) (h2 : (assignEach es X.env).findIdx? (fun x => x.1) = none) : PG X (.Tuple es k pos) (tG c wx (.tup ts) vs) := by
  refine PG.imp (pg_tup cx.calm h h1 h2) fun v σ H Q => ?_
  rintro ⟨β, M, ρ, m, rm, rs, rv, ok⟩
  cases m with
  | tup xs =>
    rw [asgT] at ok
    split at ok
    · rename_i hl
      obtain ⟨a, ys, rfl, f, r⟩ := rv
      exact ⟨a, ys, rfl, cx.K ▸ f.sq, by rw [r.len, hl], β, M, ρ, xs, rm, rs, r, asgTs_noEx hv ok⟩
    · exact ok.elim
  | _ => rw [asgT] at ok <;> first | exact ok.elim | (intro _ h; cases h)

/-! ### what is walked -/
structure Walks (s : Src) (J : It) (SI : Wd → List Addr → Mem → Hp → Prop) : Prop where
  step : ∀ {G : Wd} {β β' : List Addr} {M M' : Mem} {H H' : Hp}, SI G β M H → Step G β H β' H' → SI G β' M' H'
  hide : ∀ {G : Wd} {β : List Addr} {M : Mem} {H : Hp} {D : Addr} {o : HO}, SI G β M H → H D = none → SI (G.hide D) β M (upd H D o)
  alike : ∀ {G : Wd} {β : List Addr} {M : Mem} {H H' : Hp} {D : Addr}, D ∈ G.hid → Alike D H H' → SI G β M H → SI G β M H'
  stop : ∀ {G : Wd} {β : List Addr} {M : Mem} {H : Hp} {i : Nat}, SI G β M H → RelM G β M H → Src.ok s.guard M = true → s.items.length ≤ i → J.stop i H
  go : ∀ {G : Wd} {β : List Addr} {M : Mem} {H : Hp} {i : Nat}, SI G β M H → RelM G β M H → Src.ok s.guard M = true → i < s.items.length → J.go i H
  yld : ∀ {G : Wd} {β : List Addr} {M : Mem} {H H' : Hp} {i : Nat} {v : MV} {x : V}, SI G β M H → RelM G β M H → Src.ok s.guard M = true → s.items[i]? = some v → J.yld i H x H' → Step G β H β H' ∧ RelM G β M H' ∧ RV G β H' v x
/-- the reading of a source -/
def tI (c : Cf) (wx : WX) (it : MI) : TI := fun σ H R => ∃ β M ρ, RelM c.G β M H ∧ RelS c.G β H ρ σ ∧ OkR c (fun cl d => wx cl d σ) β H (evalI c.P c.cal it ρ M) (fun β' M' s H' => ∀ J SI, Walks s J SI → SI c.G β' M' H' → R J H')
theorem PI.dyn {X : Cx} {tg e : Expr} {t : TI} (h : ∀ σ H R, t σ H R → ∃ t', PI X tg e t' ∧ t' σ H R) : PI X tg e t :=
  ⟨fun pins s σ H R I ht => by obtain ⟨t', p, h'⟩ := h σ H R ht; exact p.run pins s σ H R I h'⟩
/-- numbers -/
theorem walks_range {lo : Int} {n : Nat} : Walks ⟨rngV lo n, none⟩ (Itr lo n) (fun _ _ _ _ => True) where
  step := fun _ _ => trivial
  hide := fun _ _ => trivial
  alike := fun _ _ _ => trivial
  stop := fun {G β M H i} _ _ _ h => by
    show n ≤ i
    simpa [rngV] using h
  go := fun {G β M H i} _ _ _ h => by
    show i < n
    simpa [rngV] using h
  yld := by
    rintro G β M H H' i v x _ rm _ hv ⟨rfl, rfl⟩
    refine ⟨Step.rfl', rm, ?_⟩
    simp only [rngV, List.getElem?_map, List.getElem?_range, Option.map_eq_some_iff] at hv
    obtain ⟨k, hk, rfl⟩ := hv
    have : k = i := by
      have := List.getElem?_eq_some_iff.mp hk
      obtain ⟨h1, h2⟩ := this
      simpa using h2.symm
    subst this
    exact rfl
/-- a list or a tuple that stands still; a mutable list while it is as it was -/
theorem walks_list {K : W.Frag} {a : Addr} {v : MV} {s : Src} (hs : ∀ {G : Wd} {β : List Addr} {M : Mem} {H : Hp}, G.K = K → RV G β H v (.ref a) → RelM G β M H → Src.ok s.guard M = true → ∃ ys, SqL K H a ys ∧ RVs G β H s.items ys) : Walks s (Itl K a) (fun G β _ H => G.K = K ∧ RV G β H v (.ref a)) where
  step := fun h st => ⟨h.1, RV.step st _ _ h.2⟩
  hide := fun h hD => ⟨h.1, RV.alike (List.mem_cons_self ..) (Alike.upd _) (RV.hide hD h.2)⟩
  alike := fun hD al h => ⟨h.1, RV.alike hD al h.2⟩
  stop := fun h rm ok hl => by
    obtain ⟨ys, sq, r⟩ := hs h.1 h.2 rm ok
    exact ⟨ys, sq, by rw [r.len]; exact hl⟩
  go := fun h rm ok hl => by
    obtain ⟨ys, sq, r⟩ := hs h.1 h.2 rm ok
    rw [← r.len] at hl
    exact ⟨ys, ys[_], sq, List.getElem?_eq_getElem hl⟩
  yld := by
    rintro G β M H H' i w x h rm ok hv ⟨rfl, hx⟩
    obtain ⟨ys, sq, r⟩ := hs h.1 h.2 rm ok
    obtain ⟨y, hy, ry⟩ := r.at hv
    have := hx ys sq
    rw [hy] at this; cases this
    exact ⟨Step.rfl', rm, ry⟩
theorem walks_tup {K : W.Frag} {a : Addr} {v : MV} {s : Src} (hs : ∀ {G : Wd} {β : List Addr} {M : Mem} {H : Hp}, G.K = K → RV G β H v (.ref a) → RelM G β M H → Src.ok s.guard M = true → ∃ ys, SqT K H a ys ∧ RVs G β H s.items ys) : Walks s (Itt K a) (fun G β _ H => G.K = K ∧ RV G β H v (.ref a)) where
  step := fun h st => ⟨h.1, RV.step st _ _ h.2⟩
  hide := fun h hD => ⟨h.1, RV.alike (List.mem_cons_self ..) (Alike.upd _) (RV.hide hD h.2)⟩
  alike := fun hD al h => ⟨h.1, RV.alike hD al h.2⟩
  stop := fun h rm ok hl => by
    obtain ⟨ys, sq, r⟩ := hs h.1 h.2 rm ok
    exact ⟨ys, sq, by rw [r.len]; exact hl⟩
  go := fun h rm ok hl => by
    obtain ⟨ys, sq, r⟩ := hs h.1 h.2 rm ok
    rw [← r.len] at hl
    exact ⟨ys, ys[_], sq, List.getElem?_eq_getElem hl⟩
  yld := by
    rintro G β M H H' i w x h rm ok hv ⟨rfl, hx⟩
    obtain ⟨ys, sq, r⟩ := hs h.1 h.2 rm ok
    obtain ⟨y, hy, ry⟩ := r.at hv
    have := hx ys sq
    rw [hy] at this; cases this
    exact ⟨Step.rfl', rm, ry⟩
theorem walks_str {s : Str} {g : Option (Nat × MO)} : Walks ⟨signs s, g⟩ (Its s) (fun _ _ _ _ => True) where
  step := fun _ _ => trivial
  hide := fun _ _ => trivial
  alike := fun _ _ _ => trivial
  stop := fun {G β M H i} _ _ _ h => by
    show s.cps.size ≤ i
    simpa [signs] using h
  go := fun {G β M H i} _ _ _ h => by
    show i < s.cps.size
    simpa [signs] using h
  yld := by
    rintro G β M H H' i v x _ rm _ hv ⟨rfl, c, hc, rfl⟩
    refine ⟨Step.rfl', rm, ?_⟩
    simp only [signs, List.getElem?_map, Array.getElem?_toList, Option.map_eq_some_iff] at hv
    obtain ⟨k, hk, rfl⟩ := hv
    rw [hk] at hc; cases hc
    exact rfl
/-- the keys of a locked dict -/
theorem walks_keys {d : Addr} {od : Obj} {kvs : List (L2.Key × V)} {g : Option (Nat × MO)} : Walks ⟨kvs.map (fun p => kM p.1), g⟩ (Itk d od kvs) (fun G β _ H => G.out β d ∧ H d = some (.frz od (.dK kvs))) where
  step := fun h st => ⟨st.out h.1 h.2, st.keep h.2 h.1 (by intro _ z; cases z)⟩
  hide := fun {G β M H D o} h hD => by
    have hne : d ≠ D := fun z => by subst z; rw [hD] at h; cases h.2
    exact ⟨⟨h.1.1, fun m => (List.mem_cons.mp m).elim hne h.1.2⟩, by rw [upd_ne hne]; exact h.2⟩
  alike := fun {G β M H H' D} hD al h => ⟨h.1, (al d fun z => h.1.2 (z ▸ hD)).trans h.2⟩
  stop := fun h _ _ hl => ⟨h.2, by simpa using hl⟩
  go := fun h _ _ hl => ⟨h.2, by simpa using hl⟩
  yld := by
    rintro G β M H H' i v x h rm _ hv ⟨rfl, k, w, hk, rfl⟩
    refine ⟨Step.rfl', rm, ?_⟩
    simp only [List.getElem?_map, Option.map_eq_some_iff] at hv
    obtain ⟨p, hp, rfl⟩ := hv
    rw [hk] at hp; cases hp
    exact RV.ofK k
/-- .. that is a mutable one -/
theorem walks_keysL {d : Addr} {od : Obj} {kvs : List (L2.Key × V)} {g : Option (Nat × MO)} : Walks ⟨kvs.map (fun p => kM p.1), g⟩ (Itk d od kvs) (fun G β _ H => d ∉ G.hid ∧ H d = some (.frz od (.dK kvs))) where
  step := fun h st => ⟨h.1, st.keepF _ _ _ h.2⟩
  hide := fun {G β M H D o} h hD => by
    have hne : d ≠ D := fun z => by subst z; rw [hD] at h; cases h.2
    exact ⟨fun m => (List.mem_cons.mp m).elim hne h.1, by rw [upd_ne hne]; exact h.2⟩
  alike := fun {G β M H H' D} hD al h => ⟨h.1, (al d fun z => h.1 (z ▸ hD)).trans h.2⟩
  stop := fun h _ _ hl => ⟨h.2, by simpa using hl⟩
  go := fun h _ _ hl => ⟨h.2, by simpa using hl⟩
  yld := by
    rintro G β M H H' i v x h rm _ hv ⟨rfl, k, w, hk, rfl⟩
    refine ⟨Step.rfl', rm, ?_⟩
    simp only [List.getElem?_map, Option.map_eq_some_iff] at hv
    obtain ⟨p, hp, rfl⟩ := hv
    rw [hk] at hp; cases hp
    exact RV.ofK k
/-- a new dict that is walked is locked -/
theorem pe_lockR {X : Cx} {e : Expr} {t : TE} (h : PE X e t) : PE X e (fun σ H Q => t σ H fun x H1 => (∃ (d : Addr) (o : Obj) (kvs : List (L2.Key × V)), x = .ref d ∧ H1 d = some (.frz o (.dK kvs)) ∧ Q x H1) ∨ ∃ (d : Addr) (kvs : List (L2.Key × V)), x = .ref d ∧ H1 d = some (.dK kvs) ∧ ∀ od, Q x (upd H1 d (.frz od (.dK kvs)))) := by
  refine ⟨fun pins s σ H Q I ht => thn (h.run pins s σ H _ I ht) fun u s1 x => ?_⟩
  obtain ⟨x, H1, I1, rx, hq⟩ := x
  rcases hq with ⟨d, o, kvs, rfl, hd, q⟩ | ⟨d, kvs, rfl, hd, q⟩
  · exact ⟨_, H1, I1, rx, q⟩
  · obtain ⟨od, I2⟩ := Inv.lock I1 hd trivial
    exact ⟨_, _, I2, rx, q od⟩
theorem tI_val {c : Cf} {T : Tb} {N : List Str} {sc : Scope} {wx : WX} {X : Cx} (cx : Ctx c T N sc wx X) {tg e : Expr} {m : ME} (he : PE X e (tE c wx m)) : PI X tg e (tI c wx (.val m)) := by
  refine PI.dyn fun σ H R => ?_
  rintro ⟨β, M, ρ, rm, rs, ok⟩
  rw [evalI] at ok
  cases ev : evalE c.P c.cal m ρ M with
  | err => rw [ev] at ok; exact ok.elim
  | ex cn ns vs M' =>
    rw [ev] at ok
    exact ⟨_, pi_list he, β, M, ρ, rm, rs, by rw [ev]; exact ok⟩
  | ok v M1 =>
    rw [ev] at ok
    simp only [Res.bind] at ok
    have ok' : ∀ β1 H1, Step c.G β H β1 H1 → RelM c.G β1 M1 H1 → ∀ s, srcV M1 v = some s → ∀ J SI, Walks s J SI → SI c.G β1 M1 H1 → R J H1 := by
      intro β1 H1 st rm1 s hs
      rw [hs] at ok
      exact ok β1 H1 st rm1
    have some_ : ∃ s, srcV M1 v = some s := by
      cases h : srcV M1 v with
      | none => rw [h] at ok; exact ok.elim
      | some s => exact ⟨s, rfl⟩
    have lst : ∀ s, srcV M1 v = some s → (∀ β1 H1 x, RelM c.G β1 M1 H1 → RV c.G β1 H1 v x → ∃ a, x = .ref a ∧ (∃ ys, SqL X.K H1 a ys) ∧ Walks s (Itl X.K a) (fun G β _ H => G.K = X.K ∧ RV G β H v (.ref a))) → ∃ t', PI X tg e t' ∧ t' σ H R := by
      intro s hs hw
      refine ⟨_, pi_list he, β, M, ρ, rm, rs, ?_⟩
      rw [ev]
      intro β1 H1 st1 rm1 x rx
      obtain ⟨a, rfl, hy, w⟩ := hw β1 H1 x rm1 rx
      exact ⟨a, rfl, hy, ok' β1 H1 st1 rm1 s hs _ _ w ⟨cx.K.symm, rx⟩⟩
    cases v with
    | fls xs =>
      refine lst _ rfl fun β1 H1 x rm1 rx => ?_
      obtain ⟨a, ys, rfl, f, r⟩ := rx
      refine ⟨a, rfl, ⟨ys, .inl (.inl f.2)⟩, walks_list fun hK rv rm ok => ?_⟩
      obtain ⟨a', ys', e, f', r'⟩ := rv
      cases e
      exact ⟨ys', .inl (.inl f'.2), r'⟩
    | scr xs =>
      refine lst _ rfl fun β1 H1 x rm1 rx => ?_
      obtain ⟨a, ys, rfl, f, r⟩ := rx
      refine ⟨a, rfl, ⟨ys, cx.K ▸ f.sq⟩, walks_list fun {G β M H} hK rv rm ok => ?_⟩
      obtain ⟨a', ys', e, f', r'⟩ := rv
      cases e
      exact ⟨ys', hK ▸ f'.sq, r'⟩
    | ref i =>
      obtain ⟨s, hs⟩ := some_
      by_cases hk : ∃ ks vs, M1[i]? = some (.lck ks vs)
      · obtain ⟨ks, vs, hi⟩ := hk
        refine ⟨_, pi_keys (pe_lockR he), β, M, ρ, rm, rs, ?_⟩
        rw [ev]
        intro β1 H1 st1 rm1 x rx
        obtain ⟨a, ha, rfl⟩ := rx
        obtain ⟨od, kvs, hd, rfl, r⟩ := rm1.obj i a _ ha hi
        have hs' : srcV M1 (.ref i) = some ⟨kvs.map (fun p => kM p.1), some (i, .lck (kvs.map fun p => kM p.1) vs)⟩ := by simp only [srcV, hi]
        exact .inl ⟨a, od, kvs, rfl, hd, a, od, rfl, .inl ⟨kvs, hd, ok' β1 H1 st1 rm1 _ hs' _ _ walks_keysL ⟨rm1.dis a (List.mem_iff_getElem?.mpr ⟨i, ha⟩), hd⟩⟩⟩
      refine lst s hs fun β1 H1 x rm1 rx => ?_
      simp only [srcV] at hs
      split at hs
      · rename_i xs hi
        cases hs
        obtain ⟨a, ha, rfl⟩ := rx
        obtain ⟨ys, hy, r⟩ := rm1.obj i a _ ha hi
        refine ⟨a, rfl, ⟨ys, .inl (.inl hy)⟩, walks_list fun {G β M H} hK rv rm ok => ?_⟩
        obtain ⟨a', ha', e⟩ := rv
        cases e
        have hM : M[i]? = some (.lst xs) := by simpa [Src.ok] using ok
        obtain ⟨ys', hy', r'⟩ := rm.obj i a _ ha' hM
        exact ⟨ys', .inl (.inl hy'), r'⟩
      · rename_i ks vs hi
        exact (hk ⟨ks, vs, hi⟩).elim
      · cases hs
    | tup xs =>
      refine ⟨_, pi_tup he, β, M, ρ, rm, rs, ?_⟩
      rw [ev]
      intro β1 H1 st1 rm1 x rx
      have rx' := rx
      obtain ⟨a, ys, rfl, f, r⟩ := rx
      refine ⟨a, rfl, ⟨ys, cx.K ▸ f.sq⟩, ok' β1 H1 st1 rm1 _ rfl _ _ (walks_tup (K := X.K) (a := a) (v := .tup xs) fun {G β M H} hK rv rm ok => ?_) ⟨cx.K.symm, rx'⟩⟩
      obtain ⟨a', ys', e, f', r'⟩ := rv
      cases e
      exact ⟨ys', hK ▸ f'.sq, r'⟩
    | str s =>
      refine ⟨_, pi_str he, β, M, ρ, rm, rs, ?_⟩
      rw [ev]
      intro β1 H1 st1 rm1 x rx
      exact ⟨s, rx, ok' β1 H1 st1 rm1 _ rfl _ _ walks_str trivial⟩
    | fdc ks vs =>
      refine ⟨_, pi_keys (pe_lockR he), β, M, ρ, rm, rs, ?_⟩
      rw [ev]
      intro β1 H1 st1 rm1 x rx
      obtain ⟨a, kvs, rfl, n, rd, rfl, r⟩ := rx
      rcases rd with hd | ⟨o, hd⟩
      · refine .inr ⟨a, kvs, rfl, hd, fun od => ⟨a, od, rfl, .inl ⟨kvs, upd_same, ?_⟩⟩⟩
        have st2 := Step.lock (G := c.G) od hd n
        exact ok' β1 _ (st1.trans st2) (rm1.lock od hd n) _ rfl _ _ walks_keys ⟨n, upd_same⟩
      · exact .inl ⟨a, o, kvs, rfl, hd, a, o, rfl, .inl ⟨kvs, hd, ok' β1 H1 st1 rm1 _ rfl _ _ walks_keys ⟨n, hd⟩⟩⟩
    | _ =>
      obtain ⟨s, hs⟩ := some_
      cases hs
theorem evalEs_len {P : MProg} {cal : Cal} : ∀ {ms : List ME} {ρ : Env} {M : Mem} {vs : List MV} {M' : Mem}, evalEs P cal ms ρ M = .ok vs M' → vs.length = ms.length
  | [], ρ, M, vs, M', h => by rw [evalEs] at h; cases h; rfl
  | m :: ms, ρ, M, vs, M', h => by
    rw [evalEs] at h
    cases h1 : evalE P cal m ρ M with
    | ok v M1 =>
      rw [h1] at h
      simp only [Res.bind] at h
      cases h2 : evalEs P cal ms ρ M1 with
      | ok us M2 => rw [h2] at h; cases h; simp [evalEs_len h2]
      | ex _ _ _ _ => rw [h2] at h; cases h
      | err => rw [h2] at h; cases h
    | ex _ _ _ _ => rw [h1] at h; cases h
    | err => rw [h1] at h; cases h
theorem OkR.eq {c : Cf} {w : Value → Option Addr → Hp → Prop} {β : List Addr} {H : Hp} {α : Type} {r : Res α} {k : List Addr → Mem → α → Hp → Prop} (h : OkR c w β H r k) : OkR c w β H r (fun β' M' v H' => r = .ok v M' ∧ k β' M' v H') := by
  cases r with
  | ok v M => exact fun β' H' s m => ⟨rfl, h β' H' s m⟩
  | ex _ _ _ _ => exact h
  | err => exact h
theorem tI_range1 {c : Cf} {T : Tb} {N : List Str} {sc : Scope} {wx : WX} {X : Cx} (cx : Ctx c T N sc wx X) {tg a : Expr} {p pos : Pos} {m : ME} (hf : (Str.ofString "range") ∈ T.frees) (hg : Gl X (Str.ofString "range")) (hs : isStar a = false) (ha : PA X [a] (tA c wx [m])) : PI X tg (.Call (.Name (Str.ofString "range") p) [a] [] pos) (tI c wx (.range [m])) := by
  refine PI.dyn fun σ H R => ?_
  rintro ⟨β, M, ρ, rm, rs, ok⟩
  rw [evalI] at ok
  refine ⟨_, pi_range1 hg (cx.mg ▸ cx.stat.free _ hf) ha (by rw [notStar hs]; rfl), β, M, ρ, rm, rs, ok.bind.eq.imp fun β1 M1 vs H1 st1 rm1 k xs rxs => ?_⟩
  obtain ⟨he, k⟩ := k
  have hl := evalEs_len he
  split at k
  · rename_i zs hz
    unfold rangeOf at hz
    split at hz
    · split at hz
      · rename_i n hn
        cases hz
        obtain ⟨y, rfl, ry⟩ := rxs.one
        cases (show y = _ from ry)
        simp only [inR, Bool.and_eq_true, decide_eq_true_eq] at hn
        exact ⟨_, rfl, hn.1, hn.2, k β1 H1 Step.rfl' rm1 _ _ walks_range trivial⟩
      · cases hz
    · simp at hl
    · cases hz
  · exact k.elim
theorem tI_range2 {c : Cf} {T : Tb} {N : List Str} {sc : Scope} {wx : WX} {X : Cx} (cx : Ctx c T N sc wx X) {tg a b : Expr} {p pos : Pos} {m m' : ME} (hf : (Str.ofString "range") ∈ T.frees) (hg : Gl X (Str.ofString "range")) (hs : isStar a = false) (hs' : isStar b = false) (ha : PA X [a, b] (tA c wx [m, m'])) : PI X tg (.Call (.Name (Str.ofString "range") p) [a, b] [] pos) (tI c wx (.range [m, m'])) := by
  refine PI.dyn fun σ H R => ?_
  rintro ⟨β, M, ρ, rm, rs, ok⟩
  rw [evalI] at ok
  refine ⟨_, pi_range2 hg (cx.mg ▸ cx.stat.free _ hf) ha (by rw [notStar hs, notStar hs']; rfl) (by rw [notStar hs']; rfl), β, M, ρ, rm, rs, ok.bind.eq.imp fun β1 M1 vs H1 st1 rm1 k xs rxs => ?_⟩
  obtain ⟨he, k⟩ := k
  have hl := evalEs_len he
  split at k
  · rename_i zs hz
    unfold rangeOf at hz
    split at hz
    · simp at hl
    · split at hz
      · rename_i m n hn
        cases hz
        obtain ⟨y, u, rfl, ry, ru⟩ := rxs.two
        cases (show y = _ from ry); cases (show u = _ from ru)
        simp only [inR, Bool.and_eq_true, decide_eq_true_eq] at hn
        exact ⟨_, _, rfl, ⟨hn.1.1, hn.1.2, hn.2.1, hn.2.2⟩, k β1 H1 Step.rfl' rm1 _ _ walks_range trivial⟩
      · cases hz
    · cases hz
  · exact k.elim

/-! ### comprehensions -/
theorem PE.ex {X : Cx} {e : Expr} {α : Type} {t : α → TE} (h : ∀ a, PE X e (t a)) : PE X e (fun σ H Q => ∃ a, t a σ H Q) :=
  PE.dyn fun σ H Q ⟨a, ha⟩ => ⟨_, h a, ha⟩
theorem PG.ex {X : Cx} {e : Expr} {α : Type} {t : α → TG} (h : ∀ a, PG X e (t a)) : PG X e (fun v σ H Q => ∃ a, t a v σ H Q) :=
  ⟨fun pins s σ H v u Q I r ⟨a, ha⟩ => (h a).run pins s σ H v u Q I r ha⟩
theorem PTs.ex {X : Cx} {e : List Expr} {α : Type} {t : α → TT} (h : ∀ a, PTs X e (t a)) : PTs X e (fun σ H Q => ∃ a, t a σ H Q) :=
  ⟨fun pins s σ H Q I ⟨a, ha⟩ => (h a).run pins s σ H Q I ha⟩
theorem PTs.imp {X : Cx} {e : List Expr} {t t' : TT} (p : PTs X e t') (h : ∀ σ H Q, t σ H Q → t' σ H Q) : PTs X e t :=
  ⟨fun pins s σ H Q I ht => p.run pins s σ H Q I (h σ H Q ht)⟩
/-- tests of a comprehension -/
def tCs (c : Cf) (wx : WX) (cs : List ME) : TT := fun σ H Q => ∃ β M ρ, RelM c.G β M H ∧ RelS c.G β H ρ σ ∧ OkR c (fun cl d => wx cl d σ) β H (evalCs c.P c.cal cs ρ M) (fun _ _ b H' => Q b H')
theorem tCs_nil {c : Cf} {wx : WX} {X : Cx} : PTs X [] (tCs c wx []) := by
  refine PTs.imp pts_nil fun σ H Q => ?_
  rintro ⟨β, M, ρ, rm, rs, ok⟩
  rw [evalCs] at ok
  exact ok β H Step.rfl' rm
theorem tCs_one {c : Cf} {wx : WX} {X : Cx} {e : Expr} {m : ME} (h : PT X e (tTst c wx m)) : PTs X [e] (tCs c wx [m]) := by
  refine PTs.imp (pts_one h) fun σ H Q => ?_
  rintro ⟨β, M, ρ, rm, rs, ok⟩
  refine ⟨β, M, ρ, rm, rs, ?_⟩
  rw [evalCs] at ok
  unfold evT
  revert ok
  cases evalE c.P c.cal m ρ M with
  | err => exact fun h => h
  | ex cn ns vs M' => exact fun h => h
  | ok v M1 =>
    simp only [Res.bind]
    cases hb : truth M1 v with
    | none => exact fun h => h.elim
    | some b =>
      cases b with
      | true => rw [evalCs]; exact fun ok => ok
      | false => exact fun ok => ok
theorem res_ok {c : Cf} {w : Value → Option Addr → Hp → Prop} {β : List Addr} {H : Hp} {α : Type} {r : Res α} {v : α} {M' : Mem} {k : List Addr → Mem → α → Hp → Prop} (h : r = .ok v M') (hk : ∀ β' H', Step c.G β H β' H' → RelM c.G β' M' H' → k β' M' v H') : OkR c w β H r k := by
  subst h; exact hk
theorem bind_ok {α γ : Type} {r : Res α} {f : α → Mem → Res γ} {v : γ} {M' : Mem} (h : r.bind f = .ok v M') : ∃ u M1, r = .ok u M1 ∧ f u M1 = .ok v M' := by
  cases r with
  | ok u M1 => exact ⟨u, M1, rfl, h⟩
  | ex _ _ _ _ => cases h
  | err => cases h
theorem compL_cons {body : MV → Mem → Res (Option MV)} {g : Option (Nat × MO)} {x : MV} {r : List MV} {M : Mem} {zs : List MV} {M' : Mem} (h : compL body g (x :: r) M = .ok zs M') : Src.ok g M = true ∧ ∃ y M1 zs', body x M = .ok y M1 ∧ compL body g r M1 = .ok zs' M' ∧ zs = (match y with
    | some y => y :: zs'
    | none => zs') := by
  rw [compL] at h
  split at h
  · rename_i hg
    refine ⟨hg, ?_⟩
    split at h
    · rename_i y M1 hb
      split at h
      · rename_i ys M2 hc
        cases h
        exact ⟨y, M1, ys, hb, hc, rfl⟩
      · cases h
    · cases h
  · cases h
theorem compL_nil {body : MV → Mem → Res (Option MV)} {g : Option (Nat × MO)} {M : Mem} {zs : List MV} {M' : Mem} (h : compL body g [] M = .ok zs M') : Src.ok g M = true ∧ zs = [] ∧ M' = M := by
  rw [compL] at h
  split at h
  · rename_i hg
    cases h; exact ⟨hg, rfl, rfl⟩
  · cases h
theorem compL_noEx {body : MV → Mem → Res (Option MV)} {g : Option (Nat × MO)} {xs : List MV} {M : Mem} {cn : Str} {ns : List Str} {vs : List MV} {M' : Mem} (h : compL body g xs M = .ex cn ns vs M') : False := by
  cases xs with
  | nil => rw [compL] at h; split at h <;> cases h
  | cons x r =>
    rw [compL] at h
    split at h
    · split at h
      · split at h <;> cases h
      · cases h
    · cases h
end Mi
/-! Mini, part Q: list comprehensions. -/
set_option autoImplicit false
set_option linter.all false
namespace Mi
open PySem L2

/-- one turn of a comprehension -/
def turnL (c : Cf) (tg : MT) (cs : List ME) (e : ME) (ρ : Env) : MV → Mem → Res (Option MV) := fun x M => (asgT c.P c.cal tg x (wipeE ρ (tgVars tg)) M).bind fun ρ1 M1 => (evalCs c.P c.cal cs ρ1 M1).bind fun b M2 => if b then (evalE c.P c.cal e ρ1 M2).bind fun y M3 => .ok (some y) M3 else .ok none M2
theorem lcomp_eq {c : Cf} {e : ME} {tg : MT} {it : MI} {cs : List ME} {ρ : Env} {M : Mem} : evalE c.P c.cal (.lcomp e tg it cs) ρ M = (evalI c.P c.cal it ρ M).bind fun s M1 => (compL (turnL c tg cs e ρ) s.guard s.items M1).bind fun ys M2 => if ys.length ≤ LINE then .ok (.fls ys) M2 else .err := by
  rw [evalE]; rfl
theorem tLc_of {c : Cf} {T : Tb} {N : List Str} {sc : Scope} {wx : WX} {X : Cx} (cx : Ctx c T N sc wx X) {me : ME} {tg : MT} {it : MI} {cs : List ME} {vs : List Nat} (hv : vs = tgVars tg) {σ : St} {H : Hp} {Q : VK} (h : tF c wx (.lcomp me tg it cs) σ H Q) :
    tLc (tI c wx it) (fun v σ H Q => ∃ D, tG (c.hide D) NoX tg (tgVars tg) v σ H Q) (fun σ H Q => ∃ D, tCs (c.hide D) NoX cs σ H Q) (fun σ H Q => ∃ D, tE (c.hide D) NoX me σ H Q) vs σ H Q := by
  subst hv
  obtain ⟨β, M, ρ, rm, rs, okk⟩ := h
  rw [lcomp_eq] at okk
  refine ⟨β, M, ρ, rm, rs, okk.bind.imp fun β1 M1 s H1 st1 rm1 k J SI hw si D hD => ?_⟩
  cases hc : compL (turnL c tg cs me ρ) s.guard s.items M1 with
  | err => rw [hc] at k; exact k.elim
  | ex cn ns vs M' => exact (compL_noEx hc).elim
  | ok zs Mf =>
    rw [hc] at k
    simp only [Res.bind] at k
    by_cases hl : zs.length ≤ LINE
    case neg => rw [if_neg hl] at k; exact k.elim
    rw [if_pos hl] at k
    have mem : D ∈ (c.hide D).G.hid := List.mem_cons_self ..
    have nD : D ∉ c.G.hid := (rm1.fresh hD).2
    refine ⟨fun i m H2 => ∃ (β2 : List Addr) (M2 : Mem) (done : List MV) (acc : List V) (rest : List MV), m = s.items.length - i ∧ i ≤ s.items.length ∧ RelM (c.hide D).G β2 M2 H2 ∧ Step c.G β1 H1 β2 H2 ∧ SI (c.hide D).G β2 M2 H2 ∧ RelS (c.hide D).G β2 H2 (wipeE ρ (tgVars tg)) (wipe σ (tgVars tg)) ∧ H2 D = some (.lst acc) ∧ RVs (c.hide D).G β2 H2 done acc ∧ compL (turnL c tg cs me ρ) s.guard (s.items.drop i) M2 = .ok rest Mf ∧ done ++ rest = zs, ⟨s.items.length, β1, M1, [], [], zs, rfl, Nat.zero_le _, rm1.hide hD _, Step.fresh _ hD, hw.hide si hD, ((rs.step st1).wipe _).map (fun r => RV.alike mem (Alike.upd _) (RV.hide hD r)), upd_same, rfl, hc, rfl⟩, ?_⟩
    rintro i m H2 ⟨β2, M2, done, acc, rest, rfl, hi, rm2, st2, si2, rs2, hacc, rdone, hcomp, hall⟩
    by_cases h : i < s.items.length
    · right
      rw [List.drop_eq_getElem_cons h] at hcomp
      obtain ⟨hg', y, M3, rest', hb, hc', hrest⟩ := compL_cons hcomp
      refine ⟨hw.go si2 rm2 hg' h, _, fun H' z => z, ?_⟩
      intro x H3 hy
      obtain ⟨st3, rm3, rv3⟩ := hw.yld si2 rm2 hg' (List.getElem?_eq_getElem h) hy
      obtain ⟨ρ1, Ma, ha, hb⟩ := bind_ok hb
      obtain ⟨b, Mb, hcs, hb⟩ := bind_ok hb
      refine ⟨D, β2, M2, _, s.items[i], rm3, rs2.step st3, rv3, res_ok ha fun β4 H4 st4 rm4 σ2 rs4 sb => ⟨wipe_same sb, D, β4, Ma, ρ1, rm4, rs4, res_ok hcs fun β5 H5 st5 rm5 => ?_⟩⟩
      have st35 := st3.trans (st4.trans st5)
      by_cases hbt : b = true
      · rw [if_pos hbt] at hb
        dsimp only
        rw [if_pos hbt]
        obtain ⟨y', Mc, he', hb⟩ := bind_ok hb
        cases hb
        refine ⟨D, β5, Mb, ρ1, rm5, rs4.step st5, res_ok he' fun β6 H6 st6 rm6 z rz => ?_⟩
        have st := st35.trans st6
        have keep : H6 D = some (.lst acc) := st.keepH D _ mem hacc
        have hz : acc.length < zs.length := by
          have := rdone.len
          rw [← hall, hrest, this]; simp
        refine ⟨acc, keep, by rw [← line_eq]; omega, s.items.length - (i + 1), by omega, β6, M3, done ++ [y'], acc ++ [z], rest', rfl, by omega, rm6.alike mem (Alike.upd _) (by rw [upd_same]; simp), (st2.under hD st).alike hD (Alike.upd _), hw.alike mem (Alike.upd _) (hw.step si2 st), (rs2.step st).map (fun r => RV.alike mem (Alike.upd _) r), upd_same, RVs.alike mem (Alike.upd _) ((RVs.step st _ _ rdone).app ⟨z, [], rfl, rz, rfl⟩), hc', ?_⟩
        rw [← hall, hrest]; simp
      · rw [if_neg hbt] at hb
        dsimp only
        rw [if_neg hbt]
        cases hb
        have keep : H5 D = some (.lst acc) := st35.keepH D _ mem hacc
        refine ⟨s.items.length - (i + 1), by omega, β5, M3, done, acc, rest', rfl, by omega, rm5, st2.under hD st35, hw.step si2 st35, rs2.step st35, keep, RVs.step st35 _ _ rdone, hc', ?_⟩
        rw [← hall, hrest]
    · left
      have he : s.items.drop i = [] := List.drop_eq_nil_of_le (by omega)
      rw [he] at hcomp
      obtain ⟨hg', rfl, rfl⟩ := compL_nil hcomp
      refine ⟨hw.stop si2 rm2 hg' (by omega), ?_⟩
      have := k β2 (del H2 D) (st2.alike hD Alike.del) (rm2.unhide nD) D (.lst acc) del_same ⟨acc, rfl, RVs.unhide (RVs.alike mem Alike.del (by rw [← hall, List.append_nil]; exact rdone))⟩
      rw [upd_del hacc] at this
      exact this
theorem tF_lcomp {c : Cf} {T : Tb} {N : List Str} {sc : Scope} {wx : WX} {X : Cx} (cx : Ctx c T N sc wx X) {elt tg iter : Expr} {ifs : List Expr} {scope : Scope} {own : List (Str × Nat)} {pos : Pos} {me : ME} {tgm : MT} {itm : MI} {csm : List ME}
    (hI : PI X tg iter (tI c wx itm)) (bo : BlkOk N sc scope own) (hf : isSet iter = false) (hv : own.map (·.2) = tgVars tgm)
    (hg : ∀ (D : Addr) (X' : Cx), Ctx (c.hide D) T N (relS scope sc) NoX X' → (∀ x, X'.fn x = (scope.names.lookup x == some .cell)) → PG X' tg (tG (c.hide D) NoX tgm (tgVars tgm)))
    (ht : ∀ (D : Addr) (X' : Cx), Ctx (c.hide D) T N (relS scope sc) NoX X' → PTs X' ifs (tCs (c.hide D) NoX csm))
    (he : ∀ (D : Addr) (X' : Cx), Ctx (c.hide D) T N (relS scope sc) NoX X' → PE X' elt (tE (c.hide D) NoX me)) :
    PE X (.ListComp elt [⟨tg, iter, ifs, 0⟩] scope pos) (tF c wx (.lcomp me tgm itm csm)) := by
  refine PE.imp (pe_lc (own := own) cx.calm (by rw [cx.names]; exact cx.nd) hI (by rw [cx.names, cx.scope]; exact bo) (fun s H C cl fp => PG.ex fun D => hg D _ (cx.blk D s H scope C cl fp) fun x => rfl) (fun s H C cl fp => PTs.ex fun D => ht D _ (cx.blk D s H scope C cl fp)) (fun s H C cl fp => PE.ex fun D => he D _ (cx.blk D s H scope C cl fp)) (noFold hf)) fun σ H Q h => tLc_of cx hv h
end Mi
/-! Mini, part R: statements. -/
set_option autoImplicit false
set_option linter.all false
namespace Mi
open PySem L2

def OutK (c : Cf) (wx : WX) (D : Ends) (β : List Addr) (H : Hp) (o : Out) : Prop := match o with
  | .nx ρ M => ∀ β' H' σ', Step c.G β H β' H' → RelM c.G β' M H' → RelS c.G β' H' ρ σ' → D.nx σ' H'
  | .bk ρ M => ∀ β' H' σ', Step c.G β H β' H' → RelM c.G β' M H' → RelS c.G β' H' ρ σ' → D.bk σ' H'
  | .ct ρ M => ∀ β' H' σ', Step c.G β H β' H' → RelM c.G β' M H' → RelS c.G β' H' ρ σ' → D.ct σ' H'
  | .rt v M => ∀ β' H' x, Step c.G β H β' H' → RelM c.G β' M H' → RV c.G β' H' v x → D.rt x H'
  | .ex cn ns vs ρ M => ∀ β' H' σ' C dx xs, Step c.G β H β' H' → RelM c.G β' M H' → RelS c.G β' H' ρ σ' → c.G.cls cn = some C → XD c.G β' H' dx ns xs → RVs c.G β' H' vs xs → wx (.ref C) (some dx) σ' H'
  | .err => False
theorem OutK.from {c : Cf} {wx : WX} {D : Ends} {β β1 : List Addr} {H H1 : Hp} {o : Out} (h : OutK c wx D β H o) (s : Step c.G β H β1 H1) : OutK c wx D β1 H1 o := by
  cases o with
  | nx ρ M => exact fun β' H' σ' s' => h β' H' σ' (s.trans s')
  | bk ρ M => exact fun β' H' σ' s' => h β' H' σ' (s.trans s')
  | ct ρ M => exact fun β' H' σ' s' => h β' H' σ' (s.trans s')
  | rt v M => exact fun β' H' x s' => h β' H' x (s.trans s')
  | ex cn ns vs ρ M => exact fun β' H' σ' C dx xs s' => h β' H' σ' C dx xs (s.trans s')
  | err => exact h
/-- an expression within a statement -/
theorem OutK.ofR {c : Cf} {wx : WX} {D : Ends} {β : List Addr} {H : Hp} {ρ : Env} {σ : St} {α : Type} {r : Res α} {f : α → Mem → Out} (h : OutK c wx D β H (Out.ofR ρ r f)) (rs : RelS c.G β H ρ σ) : OkR c (fun cl d => wx cl d σ) β H r (fun β' M' v H' => OutK c wx D β' H' (f v M')) := by
  cases r with
  | ok v M => exact fun β' H' s _ => OutK.from h s
  | ex cn ns vs M => exact fun β' H' C dx xs s rm hc hx r => h β' H' σ C dx xs s rm (rs.step s) hc hx r
  | err => exact h
def tS (c : Cf) (wx : WX) (s : MS) : TS := fun D σ H => ∃ β M ρ, RelM c.G β M H ∧ RelS c.G β H ρ σ ∧ OutK c wx D β H (execS c.P c.cal c.W s ρ M)
def tSs (c : Cf) (wx : WX) (s : List MS) : TS := fun D σ H => ∃ β M ρ, RelM c.G β M H ∧ RelS c.G β H ρ σ ∧ OutK c wx D β H (execSs c.P c.cal c.W s ρ M)
theorem tSs_nil {c : Cf} {wx : WX} {X : Cx} : PSs X [] (tSs c wx []) := by
  refine PSs.imp pss_nil fun D σ H => ?_
  rintro ⟨β, M, ρ, rm, rs, ok⟩
  rw [execSs] at ok
  exact ok β H σ Step.rfl' rm rs
theorem tSs_cons {c : Cf} {wx : WX} {X : Cx} {st : Stmt} {rest : List Stmt} {s : MS} {ss : List MS} (h : PS X st (tS c wx s)) (hr : PSs X rest (tSs c wx ss)) : PSs X (st :: rest) (tSs c wx (s :: ss)) := by
  refine PSs.imp (pss_cons h hr) fun D σ H => ?_
  rintro ⟨β, M, ρ, rm, rs, ok⟩
  rw [execSs] at ok
  refine ⟨β, M, ρ, rm, rs, ?_⟩
  revert ok
  cases execS c.P c.cal c.W s ρ M with
  | nx ρ1 M1 => exact fun ok β' H' σ' st' rm' rs' => ⟨β', M1, ρ1, rm', rs', OutK.from ok st'⟩
  | bk ρ1 M1 => exact fun ok => ok
  | ct ρ1 M1 => exact fun ok => ok
  | rt v M1 => exact fun ok => ok
  | ex cn ns vs ρ1 M1 => exact fun ok => ok
  | err => exact fun ok => ok
theorem tS_expr {c : Cf} {wx : WX} {X : Cx} {e : Expr} {pos : Pos} {m : ME} (he : PE X e (tE c wx m)) (hs : swapsWith e none pos.line X.env = pure false) : PS X (.Expr e pos) (tS c wx (.expr m)) := by
  refine PS.imp (ps_expr he hs) fun D σ H => ?_
  rintro ⟨β, M, ρ, rm, rs, ok⟩
  rw [execS] at ok
  exact ⟨β, M, ρ, rm, rs, (ok.ofR rs).imp fun β1 M1 v H1 st1 rm1 k x rx => k β1 H1 σ Step.rfl' rm1 (rs.step st1)⟩
theorem tS_ret {c : Cf} {wx : WX} {X : Cx} {e : Expr} {pos : Pos} {m : ME} (he : PE X e (tE c wx m)) : PS X (.Return (some e) pos) (tS c wx (.ret m)) := by
  refine PS.imp (ps_ret he) fun D σ H => ?_
  rintro ⟨β, M, ρ, rm, rs, ok⟩
  rw [execS] at ok
  exact ⟨β, M, ρ, rm, rs, (ok.ofR rs).imp fun β1 M1 v H1 st1 rm1 k x rx => k β1 H1 x Step.rfl' rm1 rx⟩
theorem tS_retN {c : Cf} {wx : WX} {X : Cx} {pos : Pos} : PS X (.Return none pos) (tS c wx (.ret (.lit .non))) := by
  refine PS.imp ps_retN fun D σ H => ?_
  rintro ⟨β, M, ρ, rm, rs, ok⟩
  rw [execS, evalE] at ok
  exact ok β H _ Step.rfl' rm rfl
theorem tS_pass {c : Cf} {wx : WX} {X : Cx} {pos : Pos} : PS X (.Pass pos) (tS c wx .pass) := by
  refine PS.imp ps_pass fun D σ H => ?_
  rintro ⟨β, M, ρ, rm, rs, ok⟩
  rw [execS] at ok
  exact ok β H σ Step.rfl' rm rs
theorem tS_brk {c : Cf} {wx : WX} {X : Cx} {pos : Pos} : PS X (.Break pos) (tS c wx .brk) := by
  refine PS.imp ps_break fun D σ H => ?_
  rintro ⟨β, M, ρ, rm, rs, ok⟩
  rw [execS] at ok
  exact ok β H σ Step.rfl' rm rs
theorem tS_cnt {c : Cf} {wx : WX} {X : Cx} {pos : Pos} : PS X (.Continue pos) (tS c wx .cnt) := by
  refine PS.imp ps_continue fun D σ H => ?_
  rintro ⟨β, M, ρ, rm, rs, ok⟩
  rw [execS] at ok
  exact ok β H σ Step.rfl' rm rs
/-- what follows a test, as it was asked -/
theorem tS_if {c : Cf} {wx : WX} {X : Cx} {t : Expr} {a b : List Stmt} {pos : Pos} {mt : ME} {ma mb : List MS} (ht : PT X t (tTst c wx mt)) (ha : PSs X a (tSs c wx ma)) (hb : PSs X b (tSs c wx mb)) : PS X (.If t a b pos) (tS c wx (.ifS mt ma mb)) := by
  refine PS.imp (ps_if ht ha hb) fun D σ H => ?_
  rintro ⟨β, M, ρ, rm, rs, ok⟩
  rw [execS] at ok
  refine ⟨β, M, ρ, rm, rs, ?_⟩
  unfold evT
  revert ok
  cases evalE c.P c.cal mt ρ M with
  | err => exact fun h => h
  | ex cn ns vs M' => exact fun h β' H' C dx xs s rm' hc hx r => h β' H' σ C dx xs s rm' (rs.step s) hc hx r
  | ok v M1 =>
    simp only [Out.ofR, Res.bind]
    cases hb : truth M1 v with
    | none => exact fun ok => ok.elim
    | some b =>
      cases b with
      | true => exact fun ok β' H' st rm' => ⟨β', M1, ρ, rm', rs.step st, OutK.from ok st⟩
      | false => exact fun ok β' H' st rm' => ⟨β', M1, ρ, rm', rs.step st, OutK.from ok st⟩
theorem tS_asg {c : Cf} {wx : WX} {X : Cx} {tg e : Expr} {pos : Pos} {mt : MT} {m : ME} {vs : List Nat} (he : PE X e (tE c wx m)) (hg : PG X tg (tG c wx mt vs)) (h1 : swapsWithSole [tg] e pos.line X.env = pure false) (h2 : swappedStores [tg] e X.env = pure none) (h3 : (assignEach [tg] X.env).map (·.2) = [assign tg X.env]) : PS X (.Assign [tg] e pos) (tS c wx (.asg mt m)) := by
  refine PS.imp (ps_asg he hg h1 h2 h3) fun D σ H => ?_
  rintro ⟨β, M, ρ, rm, rs, ok⟩
  rw [execS] at ok
  refine ⟨β, M, ρ, rm, rs, (ok.ofR rs).imp fun β1 M1 v H1 st1 rm1 k x rx => ?_⟩
  refine ⟨β1, M1, ρ, v, rm1, rs.step st1, rx, (k.ofR (rs.step st1)).imp fun β2 M2 ρ' H2 st2 rm2 k2 σ' rs' _ => ?_⟩
  exact k2 β2 H2 σ' Step.rfl' rm2 rs'
/-! ### loops -/
theorem tS_for {c : Cf} {T : Tb} {N : List Str} {sc : Scope} {wx : WX} {X : Cx} (cx : Ctx c T N sc wx X) {tg iter : Expr} {body : List Stmt} {pos : Pos} {mt : MT} {mi : MI} {mb : List MS} {vs : List Nat} (hi : PI X tg iter (tI c wx mi)) (hg : PG X tg (tG c wx mt vs)) (hb : PSs X body (tSs c wx mb)) (hf : isSet iter = false) : PS X (.For tg iter body [] pos) (tS c wx (.forS mt mi mb)) := by
  refine PS.imp (ps_for cx.po cx.calm hi hg hb (noFold hf)) fun D σ H => ?_
  rintro ⟨β, M, ρ, rm, rs, ok⟩
  rw [execS] at ok
  refine ⟨β, M, ρ, rm, rs, (ok.ofR rs).imp fun β1 M1 s H1 st1 rm1 k J SI hw si => ?_⟩
  refine ⟨fun i m σ2 H2 => ∃ (β2 : List Addr) (M2 : Mem) (ρ2 : Env), m = s.items.length - i ∧ i ≤ s.items.length ∧ RelM c.G β2 M2 H2 ∧ SI c.G β2 M2 H2 ∧ RelS c.G β2 H2 ρ2 σ2 ∧ OutK c wx D β2 H2 (forL (fun x ρ M => Out.ofR ρ (asgT c.P c.cal mt x ρ M) fun ρ1 M1 => execSs c.P c.cal c.W mb ρ1 M1) s.guard (s.items.drop i) ρ2 M2), ⟨s.items.length, β1, M1, ρ, rfl, Nat.zero_le _, rm1, si, rs.step st1, k⟩, ?_⟩
  rintro i m σ2 H2 ⟨β2, M2, ρ2, rfl, hi, rm2, si2, rs2, ok⟩
  by_cases h : i < s.items.length
  · right
    rw [List.drop_eq_getElem_cons h, forL] at ok
    by_cases hg' : Src.ok s.guard M2 = true
    case neg => rw [if_neg hg'] at ok; exact ok.elim
    rw [if_pos hg'] at ok
    refine ⟨hw.go si2 rm2 hg' h, _, fun σ' H' z => z, ?_⟩
    intro x H3 hy
    obtain ⟨st3, rm3, rv3⟩ := hw.yld si2 rm2 hg' (List.getElem?_eq_getElem h) hy
    refine ⟨β2, M2, ρ2, s.items[i], rm3, rs2.step st3, rv3, ?_⟩
    cases ha : asgT c.P c.cal mt s.items[i] ρ2 M2 with
    | err => rw [ha] at ok; exact ok.elim
    | ex cn ns vs M' =>
      rw [ha] at ok
      exact fun β' H' C dx xs st rm' hc hx r => ok β' H' σ2 C dx xs (st3.trans st) rm' (rs2.step (st3.trans st)) hc hx r
    | ok ρ3 M3 =>
      rw [ha] at ok
      simp only [Out.ofR] at ok
      intro β4 H4 st4 rm4 σ4 rs4 _
      refine ⟨β4, M3, ρ3, rm4, rs4, ?_⟩
      have st34 := st3.trans st4
      cases hb : execSs c.P c.cal c.W mb ρ3 M3 with
      | err => rw [hb] at ok; exact ok.elim
      | rt v M5 => rw [hb] at ok; exact OutK.from ok st34
      | bk ρ5 M5 => rw [hb] at ok; exact OutK.from ok st34
      | ex cn ns vs ρ5 M5 => rw [hb] at ok; exact OutK.from ok st34
      | nx ρ5 M5 =>
        rw [hb] at ok
        intro β5 H5 σ5 st5 rm5 rs5
        exact ⟨s.items.length - (i + 1), by omega, β5, M5, ρ5, rfl, by omega, rm5, hw.step si2 (st34.trans st5), rs5, OutK.from ok (st34.trans st5)⟩
      | ct ρ5 M5 =>
        rw [hb] at ok
        intro β5 H5 σ5 st5 rm5 rs5
        exact ⟨s.items.length - (i + 1), by omega, β5, M5, ρ5, rfl, by omega, rm5, hw.step si2 (st34.trans st5), rs5, OutK.from ok (st34.trans st5)⟩
  · left
    have he : s.items.drop i = [] := List.drop_eq_nil_of_le (by omega)
    rw [he, forL] at ok
    by_cases hg' : Src.ok s.guard M2 = true
    case neg => rw [if_neg hg'] at ok; exact ok.elim
    rw [if_pos hg'] at ok
    exact ⟨hw.stop si2 rm2 hg' (by omega), ok β2 H2 σ2 Step.rfl' rm2 rs2⟩
theorem tS_while {c : Cf} {T : Tb} {N : List Str} {sc : Scope} {wx : WX} {X : Cx} (cx : Ctx c T N sc wx X) {t : Expr} {body : List Stmt} {pos : Pos} {mt : ME} {mb : List MS} (ht : PT X t (tTst c wx mt)) (hb : PSs X body (tSs c wx mb)) : PS X (.While t body [] pos) (tS c wx (.whileS mt mb)) := by
  refine PS.imp (ps_while cx.po ht hb) fun D σ H => ?_
  rintro ⟨β, M, ρ, rm, rs, ok⟩
  rw [execS] at ok
  refine ⟨fun m σ2 H2 => ∃ (β2 : List Addr) (M2 : Mem) (ρ2 : Env), RelM c.G β2 M2 H2 ∧ RelS c.G β2 H2 ρ2 σ2 ∧ OutK c wx D β2 H2 (whileL (fun ρ M => (evalE c.P c.cal mt ρ M).bind fun x M1 => (match truth M1 x with
    | some b => .ok b M1
    | none => .err)) (execSs c.P c.cal c.W mb) m ρ2 M2), ⟨c.W, β, M, ρ, rm, rs, ok⟩, ?_⟩
  rintro m σ2 H2 ⟨β2, M2, ρ2, rm2, rs2, ok⟩
  cases m with
  | zero => exact ok.elim
  | succ n =>
    rw [whileL] at ok
    refine ⟨β2, M2, ρ2, rm2, rs2, ?_⟩
    unfold evT
    revert ok
    cases evalE c.P c.cal mt ρ2 M2 with
    | err => exact fun h => h.elim
    | ex cn ns vs M' => exact fun h β' H' C dx xs s rm' hc hx r => h β' H' σ2 C dx xs s rm' (rs2.step s) hc hx r
    | ok v M3 =>
      simp only [Res.bind]
      cases hb : truth M3 v with
      | none => exact fun h => h.elim
      | some b =>
        cases b with
        | false =>
          intro ok β3 H3 st3 rm3
          exact ok β3 H3 σ2 st3 rm3 (rs2.step st3)
        | true =>
          intro ok β3 H3 st3 rm3
          refine ⟨_, fun σ' H' z => z, ?_⟩
          refine ⟨β3, M3, ρ2, rm3, rs2.step st3, ?_⟩
          cases hx : execSs c.P c.cal c.W mb ρ2 M3 with
          | err => simp only [hx] at ok; exact ok.elim
          | rt v M5 => simp only [hx] at ok; exact OutK.from ok st3
          | bk ρ5 M5 => simp only [hx] at ok; exact OutK.from ok st3
          | ex cn ns vs ρ5 M5 => simp only [hx] at ok; exact OutK.from ok st3
          | nx ρ5 M5 =>
            simp only [hx] at ok
            exact fun β5 H5 σ5 st5 rm5 rs5 => ⟨n, Nat.lt_succ_self _, β5, M5, ρ5, rm5, rs5, OutK.from ok (st3.trans st5)⟩
          | ct ρ5 M5 =>
            simp only [hx] at ok
            exact fun β5 H5 σ5 st5 rm5 rs5 => ⟨n, Nat.lt_succ_self _, β5, M5, ρ5, rm5, rs5, OutK.from ok (st3.trans st5)⟩
end Mi
/-! Mini, part S: the body of a def keeps its promise; all of them, by depth. -/
set_option autoImplicit false
set_option linter.all false
namespace Mi
open PySem L2

theorem RVs.start {G : Wd} {β : List Addr} {H : Hp} {vs : List MV} {xs : List V} (r : RVs G β H vs xs) (n : Nat) : RelS G β H (vs.map some ++ List.replicate (n - vs.length) none) (xs.map some ++ List.replicate (n - xs.length) none) := by
  have hl := r.len
  refine ⟨by simp [hl], fun i v hi => ?_⟩
  by_cases c : i < vs.length
  · rw [List.getElem?_append_left (by simpa using c)] at hi
    simp only [List.getElem?_map, Option.map_eq_some_iff] at hi
    obtain ⟨w, hw, e⟩ := hi
    cases e
    obtain ⟨x, hx, rx⟩ := r.at hw
    refine ⟨x, ?_, rx⟩
    rw [List.getElem?_append_left (by simpa [hl] using c)]
    simp [hx]
  · rw [List.getElem?_append_right (by simpa using c)] at hi
    rw [List.getElem?_replicate] at hi
    split at hi <;> cases hi
def Cf.at (c : Cf) (n : Nat) : Cf := { c with n := n }
theorem body_ok {c : Cf} {T : Tb} {prog : Program} {w : World} {base : Heap} {d : FDef} {f : Addr} {fd : FuncData} {x qual : Str} {params : Arguments} {body : List Stmt} {scope : Scope} {dvs : List V} {kws : List (Str × V)}
    (hd : fnOf? c.P d.nm = some d) (F : FunD c.G.K x qual params body scope dvs kws f fd) (S : FnScope d.N d.ps scope) (st : ∀ φ, Stat (c.G.with φ) c.P T) (fns : ∀ φ, FnsOk (c.with φ) prog w base) (xin : XInOk c T prog w base)
    (hb : ∀ (φ : List Addr) (wx : WX) (X : Cx), Ctx (c.with φ) T d.N scope wx X → FnCx wx X → PSs X body (tSs (c.with φ) wx d.body)) (φ : List Addr) :
    FnOk prog w c.G.K c.G.mg base (CX prog w) (lev (c.n + 1)) f fd d.ps (spM ((c.with φ).at (c.n + 1)) d.nm) := by
  refine fun_ok (k := lev c.n + 3) F S ?_ ?_
  · rintro vs H Q E ⟨β, M, xs, rm, rs, ok⟩
    rw [rs.len]
    simp only [Cf.cal, Cf.at, Cf.with, callF, hd] at ok
    unfold runF at ok
    split at ok
    · rename_i h; exact h
    · exact ok.elim
  · rintro cdv A outer s H vs Q E hr hqt ⟨β, M, xs, rm, rs, ok⟩
    refine ⟨_, hb φ (fun cl d _ H => E cl d H) _ ⟨rfl, rfl, rfl, rfl, S.nd, rfl, hr, hqt, st φ, fns, fun σ => passAt (takes_of rfl rfl rfl rfl) σ, passes_of rfl, xin⟩ ⟨fun _ => rfl, takes_of rfl rfl rfl rfl, rfl, rfl, rfl⟩, ?_⟩
    · simp only [Cf.cal, Cf.at, Cf.with, callF, hd] at ok
      unfold runF at ok
      split at ok
      case isFalse => exact ok.elim
      rename_i hl
      refine ⟨β, M, xs.map some ++ List.replicate (d.N.length - xs.length) none, rm, rs.start _, ?_⟩
      have fin : OkR (c.with φ) (fun cl d H' => E cl d H') β H (match execSs c.P (callF c.P c.W c.n) c.W d.body (xs.map some ++ List.replicate (d.N.length - xs.length) none) M with
        | .nx _ M1 => .ok .non M1
        | .rt v M1 => .ok v M1
        | .ex c ns ws _ M1 => .ex c ns ws M1
        | _ => .err) (KQ (c.with φ) Q) := by
        dsimp only at ok
        split at ok
        · exact ok
        · exact OkR.finR (c := c.with φ) rm Step.rfl' ok
        · exact OkR.finK (c := c.with φ) rm Step.rfl' ok
      revert fin
      show _ → OutK (c.with φ) (fun cl d _ H => E cl d H) _ β H (execSs c.P (callF c.P c.W c.n) c.W d.body _ M)
      cases execSs c.P (callF c.P c.W c.n) c.W d.body (xs.map some ++ List.replicate (d.N.length - xs.length) none) M with
      | nx ρ1 M1 => exact fun fin β' H' σ' st' rm' _ => fin β' H' st' rm' _ rfl
      | rt v M1 => exact fun fin β' H' x st' rm' rx => fin β' H' st' rm' x rx
      | bk ρ1 M1 => exact fun fin => fin.elim
      | ct ρ1 M1 => exact fun fin => fin.elim
      | ex cn ns vs ρ1 M1 => exact fun fin β' H' σ' C dx xs st' rm' _ hc hx r => fin β' H' C dx xs st' rm' hc hx r
      | err => exact fun fin => fin.elim
end Mi
/-! Mini, part T: stores into lists, dicts, fields; stars in displays. -/
set_option autoImplicit false
set_option linter.all false
namespace Mi
open PySem L2

theorem set_dict {X : Cx} (hu : X.A.units + 1 < cLine) : PSet X (fun o i v H Q => ∃ (a : Addr) (H' : Hp), o = .ref a ∧ DPut H a i v H' ∧ Q H') := by
  intro pins s σ H o i v ov iv u Q I ro ri rv h
  obtain ⟨a, H', rfl, g, q⟩ := h
  cases (show ov = .ref a from ro)
  exact d_setItem hu I g ri rv fun s' I' => ⟨H', I', q⟩
theorem PSet.dyn {X : Cx} {t : TSet} (h : ∀ o i v H Q, t o i v H Q → ∃ t', PSet X t' ∧ t' o i v H Q) : PSet X t :=
  fun pins s σ H o i v ov iv u Q I ro ri rv ht => by obtain ⟨t', p, h'⟩ := h o i v H Q ht; exact p pins s σ H o i v ov iv u Q I ro ri rv h'
/-- the reading of a store -/
def tSetM (c : Cf) : TSet := fun o i v H Q => ∃ β M mo mi mv M', RelM c.G β M H ∧ RV c.G β H mo o ∧ RV c.G β H mi i ∧ RV c.G β H mv v ∧ setM M mo mi mv = some M' ∧ ∀ H', Step c.G β H β H' → RelM c.G β M' H' → Q H'
theorem set_M {c : Cf} {X : Cx} (hu : X.A.units + 1 < cLine) : PSet X (tSetM c) := by
  refine PSet.dyn fun o i v H Q => ?_
  rintro ⟨β, M, mo, mi, mv, M', rm, ro, ri, rv, hs, q⟩
  cases mo with
  | ref a =>
    obtain ⟨b, hb, rfl⟩ := ro
    obtain ⟨ob, ho, rob⟩ := rm.get hb
    simp only [setM, ho] at hs
    cases ob with
    | lst xs =>
      obtain ⟨ys, hy, r⟩ := rob
      cases mi with
      | int j =>
        obtain ⟨k, hk, rfl⟩ := Option.map_eq_some_iff.mp hs
        cases (show i = _ from ri)
        have st := Step.wr rm hb (.lst (ys.set k v)) (fun od u z => by rw [hy] at z; cases z)
        refine ⟨_, set_list, b, ys, j, k, rfl, rfl, hy, by rw [r.len]; exact hk, q _ st (rm.wr hb _ (fun od u z => by rw [hy] at z; cases z) _ ⟨_, upd_same, RVs.step st _ _ (r.set k rv)⟩)⟩
      | _ => cases hs
    | dct ep ks vs =>
      obtain ⟨kvs, hy, rfl, r⟩ := rob
      simp only at hs
      split at hs
      · rename_i hc
        obtain ⟨hk, hl⟩ := hc
        obtain ⟨k, rfl⟩ := isK_k hk
        cases hs
        cases ri.kV
        have st := Step.wr rm hb (.dK (putK kvs k v)) (fun od u z => by rw [hy] at z; cases z)
        obtain ⟨e1, e2⟩ := putK_rel rv r (k := k)
        refine ⟨_, set_dict hu, b, upd H b (.dK (putK kvs k v)), rfl, .inl ⟨kvs, k, hy, rfl, by rw [← line_eq]; simpa using hl, rfl⟩, q _ st (rm.wr hb _ (fun od u z => by rw [hy] at z; cases z) _ ⟨_, upd_same, e1, RVs.step st _ _ e2⟩)⟩
      · cases hs
    | _ => cases hs
  | _ => cases hs
theorem tG_idx {c : Cf} {T : Tb} {N : List Str} {sc : Scope} {wx : WX} {X : Cx} (cx : Ctx c T N sc wx X) {o i : Expr} {pos : Pos} {mo mi : ME} (ho : PE X o (tE c wx mo)) (hi : PE X i (tE c wx mi))
    (ha : ∀ v : Value, assign (o.Subscript i pos) X.env v = (do
      let ov ← holding [v] (eval o X.env)
      let iv ← holding [v, ov] (eval i X.env)
      standAt pos
      holding [v, ov, iv] (setItem ov iv v)
      release [v, ov, iv] [])) : PG X (.Subscript o i pos) (tG c wx (.idx mo mi) []) := by
  refine PG.imp (pg_sub ho hi (set_M (c := c) (by have := cx.units; omega)) ha) fun v σ H Q => ?_
  rintro ⟨β, M, ρ, m, rm, rs, rv, ok⟩
  rw [asgT] at ok
  refine ⟨β, M, ρ, rm, rs, ok.bind.imp fun β1 M1 x H1 st1 rm1 k xo rxo => ?_⟩
  refine ⟨β1, M1, ρ, rm1, rs.step st1, k.bind.imp fun β2 M2 y H2 st2 rm2 k2 xi rxi => ?_⟩
  cases hs : setM M2 x y m with
  | none => rw [hs] at k2; exact k2.elim
  | some M3 =>
    rw [hs] at k2
    refine ⟨β2, M2, x, y, m, M3, rm2, RV.step st2 _ _ rxo, rxi, RV.step (st1.trans st2) _ _ rv, hs, fun H' st rm' => ?_⟩
    exact k2 β2 H' st rm' σ (rs.step (st1.trans (st2.trans st))) SameBut.rfl'
end Mi
/-! Mini, part U: stores into fields. -/
set_option autoImplicit false
set_option linter.all false
namespace Mi
open PySem L2

theorem putF_zip {G : Wd} {β : List Addr} {H : Hp} {f : Str} {w : MV} {x : V} (rx : RV G β H w x) : ∀ {ns : List Str} {vs : List MV} {ys : List V}, RVs G β H vs ys → ns.length = vs.length →
    match fidx ns f with
    | some i => ∃ zs, putF f x (ns.zip ys) = ns.zip zs ∧ RVs G β H (vs.set i w) zs
    | none => ∃ zs, putF f x (ns.zip ys) = (ns ++ [f]).zip zs ∧ RVs G β H (vs ++ [w]) zs
  | [], [], ys, r, _ => by cases (show ys = [] from r); exact ⟨[x], rfl, x, [], rfl, rx, rfl⟩
  | [], _ :: _, _, _, h => by simp at h
  | _ :: _, [], _, _, h => by simp at h
  | n :: ns, v :: vs, ys, ⟨y, t, e, r0, rs⟩, h => by
    subst e
    by_cases c : n = f
    · subst c
      have : fidx (n :: ns) n = some 0 := by simp [fidx]
      rw [this]
      exact ⟨x :: t, by simp [putF], x, t, rfl, rx, rs⟩
    · have ih := putF_zip (f := f) rx rs (ns := ns) (by simpa using h)
      have e2 : fidx (n :: ns) f = (fidx ns f).map (· + 1) := by simp [fidx, c]
      rw [e2]
      revert ih
      cases fidx ns f with
      | none =>
        rintro ⟨zs, h1, h2⟩
        exact ⟨y :: zs, by simp [putF, c, h1], y, zs, rfl, r0, h2⟩
      | some i =>
        rintro ⟨zs, h1, h2⟩
        exact ⟨y :: zs, by simp [putF, c, h1], y, zs, rfl, r0, h2⟩
theorem tS_fld {c : Cf} {T : Tb} {N : List Str} {sc : Scope} {wx : WX} {X : Cx} (cx : Ctx c T N sc wx X) {o e : Expr} {f : Str} {pos pos' : Pos} {mo me : ME} (ho : PE X o (tE c wx mo)) (he : PE X e (tE c wx me)) (hs : swapsWith e (some (o.Attribute f pos')) pos.line X.env = pure false) : PS X (.Assign [.Attribute o f pos'] e pos) (tS c wx (.asg (.fld mo f) me)) := by
  refine PS.imp (ps_fld ho he hs) fun D σ H => ?_
  rintro ⟨β, M, ρ, rm, rs, ok⟩
  rw [execS] at ok
  refine ⟨β, M, ρ, rm, rs, (ok.ofR rs).imp fun β1 M1 v H1 st1 rm1 k y ry => ?_⟩
  rw [asgT] at k
  refine ⟨β1, M1, ρ, rm1, rs.step st1, (k.ofR (rs.step st1)).bind.imp fun β2 M2 x H2 st2 rm2 k2 xo rxo => ?_⟩
  by_cases hok : fldOk c.P M2 x f = true
  case neg => rw [if_neg hok] at k2; exact k2.elim
  rw [if_pos hok] at k2
  cases x with
  | ref a =>
    obtain ⟨b, hb, rfl⟩ := rxo
    obtain ⟨ob, hob, rob⟩ := rm2.get hb
    simp only [fldSet, hob] at k2
    cases ob with
    | ins cn ns vs =>
      obtain ⟨C, dx, ys, hC, hi, hl, r⟩ := rob
      simp only at k2
      by_cases h1000 : ns.length < 1000
      case neg => rw [if_neg h1000] at k2; exact k2.elim
      rw [if_pos h1000] at k2
      have pz := putF_zip (RV.step st2 _ _ ry) r hl (f := f)
      have fin : ∀ (ns' : List Str) (vs' : List MV) (zs : List V), putF f y (ns.zip ys) = ns'.zip zs → RVs c.G β2 H2 vs' zs → ns'.length = vs'.length → OkR c (fun cl d => wx cl d σ) β2 H2 (Res.ok ρ (wr M2 a (.ins cn ns' vs'))) (fun β' M' v H' => OutK c wx D β' H' (.nx v M')) → D.nx σ (upd H2 b (.ins C dx (putF f y (ns.zip ys)))) := by
        intro ns' vs' zs e1 e2 e3 k
        rw [e1]
        have st := Step.wr rm2 hb (.ins C dx (ns'.zip zs)) (fun od u z => by rw [hi] at z; cases z)
        have rm3 := rm2.wr hb (.ins C dx (ns'.zip zs)) (fun od u z => by rw [hi] at z; cases z) (.ins cn ns' vs') ⟨C, dx, zs, hC, upd_same, e3, RVs.step st _ _ e2⟩
        exact k β2 _ st rm3 β2 _ σ Step.rfl' rm3 (rs.step (st1.trans (st2.trans st)))
      unfold fldOk at hok
      simp only [fields, hob] at hok
      split at hok
      · rename_i d hd
        obtain ⟨C', ci⟩ := cx.stat.cls cn d hd
        have hnm : d.nm = cn := by simpa using List.find?_some hd
        have := ci.at_
        rw [hnm, hC] at this; cases this
        have hfs : (ns.zip ys).length < 1000 := by
          rw [List.length_zip]; omega
        refine ⟨b, C, dx, _, rfl, hi, cx.K ▸ ci.cls, cx.K ▸ ci.fld f (by simpa using hok), hfs, ?_⟩
        cases hx : fidx ns f with
        | none =>
          rw [hx] at pz k2
          obtain ⟨zs, e1, e2⟩ := pz
          exact fin _ _ _ e1 e2 (by simp [hl]) k2
        | some i =>
          rw [hx] at pz k2
          obtain ⟨zs, e1, e2⟩ := pz
          exact fin _ _ _ e1 e2 (by simp [hl]) k2
      · cases hok
    | _ => exact k2.elim
  | _ => exact k2.elim
end Mi
/-! Mini, part V: a star of a dict in a display. -/
set_option autoImplicit false
set_option linter.all false
namespace Mi
open PySem L2
theorem vals_of : ∀ {xs : List V} {us : List Value}, xs.length = us.length → (∀ (i : Nat) (x : V) (u : Value), xs[i]? = some x → us[i]? = some u → RelV x u) → Vals xs us
  | [], [], _, _ => .nil
  | [], _ :: _, h, _ => by simp at h
  | _ :: _, [], h, _ => by simp at h
  | x :: xs, u :: us, h, k => .cons (k 0 x u rfl rfl) (vals_of (by simpa using h) fun i y w h1 h2 => k (i + 1) y w (by simpa using h1) (by simpa using h2))
theorem kv_at : ∀ {kvs : List (L2.Key × V)} {vs : List (L2.Key × Value)} {i : Nat} {p : L2.Key × V} {q : L2.Key × Value}, KV kvs vs → kvs[i]? = some p → vs[i]? = some q → p.1 = q.1
  | _, _, 0, p, q, .cons h _, h1, h2 => by simp at h1 h2; subst h1; subst h2; exact h.1
  | _, _, i + 1, p, q, .cons _ h, h1, h2 => kv_at h (by simpa using h1) (by simpa using h2)
  | _, _, i, p, q, .nil, h1, _ => by simp at h1
theorem star_dict {X : Cx} {pins : List (Addr × Obj)} {σ : St} {H : Hp} {s : Shared} {a : Addr} {kvs : List (L2.Key × V)} {E : Value → Shared → Prop} {Q : List Value → Shared → Prop} (hc : X.calm = true) (I : L2.Inv X pins σ H s) (rd : Rd H a (.dK kvs)) (q : ∀ (us : List Value) (s' : Shared), L2.Inv X pins σ H s' → Vals (kvs.map fun kv => kV kv.1) us → Q us s') : W.StarOf (model X.prog X.w) X.A E (Value.ref a) Q s := by
  obtain ⟨z, lo, vs, rel, dd⟩ := dk_rd I.hok rd
  obtain ⟨ep, hat⟩ := dd.dictAt
  have hl : vs.length = kvs.length := rel.length.symm
  refine wpAny_bind (wpAny_specialOf dd.typeIs F.slot_dict_iter.lookup (wpAny_pure ⟨rfl, ?_⟩))
  refine W.kdu_collect (W.kdl_dict lo) (I.ok.hd hc) hat (by rw [hl]; exact z) fun h' tk acc hk hacc => ?_
  refine q _ _ (Inv.kept I hk) ?_
  refine vals_of (by simp [hacc.1, hl]) fun i x u h1 h2 => ?_
  simp only [List.getElem?_map, Option.map_eq_some_iff] at h1
  obtain ⟨p, hp, rfl⟩ := h1
  obtain ⟨k, y, hk2, hi⟩ := hacc.2 i u (by simpa using h2)
  have e := kv_at rel hp hk2
  simp only at e
  rw [e]
  exact keyIs_rel hi
theorem tAs_star {c : Cf} {T : Tb} {N : List Str} {sc : Scope} {wx : WX} {X : Cx} (cx : Ctx c T N sc wx X) {e : Expr} {es : List Expr} {p : Pos} {m : ME} {ms : List MA} (he : PE X e (tE c wx m)) (h : PA X es (tAs c wx ms)) : PA X (.Starred e p :: es) (tAs c wx (.star m :: ms)) := by
  refine ⟨fun pos pins s σ H Q I => ?_⟩
  rintro ⟨β, M, ρ, rm, rs, ok⟩
  rw [evalAs] at ok
  refine W.items_star (thn (he.run pins s σ H (fun x H1 => ∃ (a : Addr) (xs : List V), x = .ref a ∧ ((SqT X.K H1 a xs ∨ SqL X.K H1 a xs) ∨ ∃ kvs : List (L2.Key × V), Rd H1 a (.dK kvs) ∧ xs = kvs.map fun kv => kV kv.1) ∧ tAs c wx ms σ H1 fun ys H2 => Q (xs ++ ys) H2) I ⟨β, M, ρ, rm, rs, ok.bind.imp fun β1 M1 v H1 st1 rm1 k x rx => ?_⟩) fun u s1 z => ?_) rfl
  · have go : ∀ (zs : List MV) (xs : List V), RVs c.G β1 H1 zs xs → starV M1 v = some zs → tAs c wx ms σ H1 fun ys H2 => Q (xs ++ ys) H2 := by
      intro zs xs r hz
      rw [hz] at k
      refine ⟨β1, M1, ρ, rm1, rs.step st1, k.bind.imp fun β2 M2 ws H2 st2 rm2 k2 ys rys => ?_⟩
      exact k2 β2 H2 Step.rfl' rm2 _ ((RVs.step st2 _ _ r).app rys)
    cases hv : view M1 v with
    | seq zs =>
      obtain ⟨a, ys, rfl, f, r⟩ := seq_at rm1 rx hv
      exact ⟨a, ys, rfl, .inl (f.elim (fun f => .inr (cx.K ▸ f)) fun f => .inl (cx.K ▸ f)), go zs ys r (by unfold starV; rw [hv])⟩
    | dict ks ws =>
      obtain ⟨a, kvs, rfl, rd, rfl, r⟩ := dict_at rm1 rx hv
      exact ⟨a, _, rfl, .inr ⟨kvs, rd, rfl⟩, go _ _ (keys_mk kvs) (by unfold starV; rw [hv])⟩
    | _ =>
      have : starV M1 v = none := by unfold starV; rw [hv]
      rw [this] at k; exact k.elim
  · obtain ⟨x, H1, I1, rx, a, xs, rfl, hx, q⟩ := z
    cases (show u = .ref a from rx)
    have rest : ∀ (us : List Value) (s' : Shared), L2.Inv X pins σ H1 s' → Vals xs us → wpAny (model X.prog X.w) X.A (spliced (backTo pos (starEach es X.env))) (fun vs s₃ => AP X pins σ Q (us ++ vs) s₃) X.xe s' := by
      intro us s2 I2 rv
      refine thn (h.run pos pins s2 σ H1 _ I2 q) fun ws s3 z => ?_
      obtain ⟨vs, H3, I3, r3, q3⟩ := z
      exact ⟨xs ++ vs, H3, I3, Vals.append rv r3, q3⟩
    rcases hx with hx | ⟨kvs, rd, rfl⟩
    · exact StX.star_any I1 hx rest
    · exact star_dict cx.calm I1 rd rest
end Mi
/-! Mini, part W: what isn't read; parallel assignments; name = [..]; calls with keywords. -/
set_option autoImplicit false
set_option linter.all false
namespace Mi
open PySem L2

/-! ### what is never reached -/
theorem tE_bad {c : Cf} {wx : WX} {X : Cx} {e : Expr} : PE X e (tE c wx .bad) := by
  refine ⟨fun pins s σ H Q I h => ?_⟩
  obtain ⟨β, M, ρ, rm, rs, ok⟩ := h
  rw [evalE] at ok
  exact ok.elim
theorem tS_bad {c : Cf} {wx : WX} {X : Cx} {s : Stmt} : PS X s (tS c wx .bad) := by
  refine ⟨fun pins s σ H D I h => ?_⟩
  obtain ⟨β, M, ρ, rm, rs, ok⟩ := h
  rw [execS] at ok
  exact ok.elim

/-! ### a, b = x, y -/
theorem len2 {α : Type} {xs : List α} (h : xs.length = 2) : ∃ a b, xs = [a, b] := by
  match xs, h with
  | [a, b], _ => exact ⟨a, b, rfl⟩
theorem len3 {α : Type} {xs : List α} (h : xs.length = 3) : ∃ a b c, xs = [a, b, c] := by
  match xs, h with
  | [a, b, c], _ => exact ⟨a, b, c, rfl⟩
theorem evalAs_len {P : MProg} {cal : Cal} : ∀ {ms : List MA} {ρ : Env} {M : Mem} {vs : List MV} {M' : Mem}, (∀ m ∈ ms, ∃ e, m = .e e) → evalAs P cal ms ρ M = .ok vs M' → vs.length = ms.length
  | [], ρ, M, vs, M', _, h => by rw [evalAs] at h; cases h; rfl
  | .star m :: ms, ρ, M, vs, M', hs, h => by
    obtain ⟨e, he⟩ := hs _ (List.mem_cons_self ..)
    cases he
  | .e m :: ms, ρ, M, vs, M', hs, h => by
    rw [evalAs] at h
    obtain ⟨v, M1, _, h⟩ := bind_ok h
    obtain ⟨us, M2, h2, h⟩ := bind_ok h
    cases h
    simp [evalAs_len (fun m hm => hs m (List.mem_cons_of_mem _ hm)) h2]
theorem tS_par2 {c : Cf} {T : Tb} {N : List Str} {sc : Scope} {wx : WX} {X : Cx} (cx : Ctx c T N sc wx X) {i j : Nat} {x y : Str} {a b : Expr} {px py pt pos pt2 : Pos} {kt k2 : Nat} {ma mb : ME} (hi : N[i]? = some x) (hj : N[j]? = some y) (hij : i ≠ j) (hx : sc.names.lookup x = some .local) (hy : sc.names.lookup y = some .local)
    (hw : swappedStores [.Tuple [.Name x px, .Name y py] kt pt] (.Tuple [a, b] k2 pt2) X.env = pure (some [x, y])) (ha : PA X [a, b] (tAs c wx [.e ma, .e mb])) : PS X (.Assign [.Tuple [.Name x px, .Name y py] kt pt] (.Tuple [a, b] k2 pt2) pos) (tS c wx (.asg (.tup [.var i, .var j]) (.tupE [.e ma, .e mb]))) := by
  refine PS.imp (ps_par cx.calm (by rw [cx.names]; exact cx.nd) (by rw [cx.names]; exact hi) (by rw [cx.names]; exact hj) hij (by rw [cx.scope]; exact hx) (by rw [cx.scope]; exact hy) ha hw) fun D σ H => ?_
  rintro ⟨β, M, ρ, rm, rs, ok⟩
  rw [execS, evalE] at ok
  refine ⟨β, M, ρ, rm, rs, (ok.ofR rs).bind.eq.imp fun β1 M1 vs H1 st1 rm1 k xs rxs => ?_⟩
  obtain ⟨he, k⟩ := k
  obtain ⟨v, u, rfl⟩ := len2 (evalAs_len (by simp) he)
  rw [if_pos (by simp [LINE])] at k
  obtain ⟨p, q, rfl, rp, rq⟩ := rxs.two
  refine ⟨p, q, rfl, ?_⟩
  have k := k β1 H1 Step.rfl' rm1
  dsimp only at k
  rw [asgT, if_pos (by rfl), asgTs, asgT] at k
  have rs1 := rs.step st1
  by_cases c1 : i < ρ.length
  case neg => rw [if_neg c1] at k; exact k.elim
  rw [if_pos c1] at k
  simp only [Res.bind] at k
  rw [asgTs, asgT] at k
  by_cases c2 : j < (ρ.set i (some v)).length
  case neg => rw [if_neg c2] at k; exact k.elim
  rw [if_pos c2] at k
  simp only [Res.bind] at k
  rw [asgTs] at k
  exact k β1 H1 _ Step.rfl' rm1 ((rs1.set i rp).set j rq)
theorem RVs.three {G : Wd} {β : List Addr} {H : Hp} {v w t : MV} {xs : List V} (r : RVs G β H [v, w, t] xs) : ∃ x y z, xs = [x, y, z] ∧ RV G β H v x ∧ RV G β H w y ∧ RV G β H t z := by
  obtain ⟨x, s, e, r, rs⟩ := r
  obtain ⟨y, z, rfl, r', r''⟩ := rs.two
  exact ⟨x, y, z, e, r, r', r''⟩
theorem tS_par3 {c : Cf} {T : Tb} {N : List Str} {sc : Scope} {wx : WX} {X : Cx} (cx : Ctx c T N sc wx X) {i j l : Nat} {x y z : Str} {a b d : Expr} {px py pz pt pos pt2 : Pos} {kt k2 : Nat} {ma mb md : ME} (hi : N[i]? = some x) (hj : N[j]? = some y) (hl : N[l]? = some z) (hij : i ≠ j) (hil : i ≠ l) (hjl : j ≠ l)
    (hx : sc.names.lookup x = some .local) (hy : sc.names.lookup y = some .local) (hz : sc.names.lookup z = some .local)
    (hw : swappedStores [.Tuple [.Name x px, .Name y py, .Name z pz] kt pt] (.Tuple [a, b, d] k2 pt2) X.env = pure (some [x, y, z])) (ha : PA X [a, b, d] (tAs c wx [.e ma, .e mb, .e md])) : PS X (.Assign [.Tuple [.Name x px, .Name y py, .Name z pz] kt pt] (.Tuple [a, b, d] k2 pt2) pos) (tS c wx (.asg (.tup [.var i, .var j, .var l]) (.tupE [.e ma, .e mb, .e md]))) := by
  refine PS.imp (ps_par3 cx.calm (by rw [cx.names]; exact cx.nd) (by rw [cx.names]; exact hi) (by rw [cx.names]; exact hj) (by rw [cx.names]; exact hl) hij hil hjl (by rw [cx.scope]; exact hx) (by rw [cx.scope]; exact hy) (by rw [cx.scope]; exact hz) ha hw) fun D σ H => ?_
  rintro ⟨β, M, ρ, rm, rs, ok⟩
  rw [execS, evalE] at ok
  refine ⟨β, M, ρ, rm, rs, (ok.ofR rs).bind.eq.imp fun β1 M1 vs H1 st1 rm1 k xs rxs => ?_⟩
  obtain ⟨he, k⟩ := k
  obtain ⟨v, u, t, rfl⟩ := len3 (evalAs_len (by simp) he)
  rw [if_pos (by simp [LINE])] at k
  obtain ⟨p, q, r, rfl, rp, rq, rr⟩ := rxs.three
  refine ⟨p, q, r, rfl, ?_⟩
  have k := k β1 H1 Step.rfl' rm1
  dsimp only at k
  rw [asgT, if_pos (by rfl), asgTs, asgT] at k
  have rs1 := rs.step st1
  by_cases c1 : i < ρ.length
  case neg => rw [if_neg c1] at k; exact k.elim
  rw [if_pos c1] at k
  simp only [Res.bind] at k
  rw [asgTs, asgT] at k
  by_cases c2 : j < (ρ.set i (some v)).length
  case neg => rw [if_neg c2] at k; exact k.elim
  rw [if_pos c2] at k
  simp only [Res.bind] at k
  rw [asgTs, asgT] at k
  by_cases c3 : l < ((ρ.set i (some v)).set j (some u)).length
  case neg => rw [if_neg c3] at k; exact k.elim
  rw [if_pos c3] at k
  simp only [Res.bind] at k
  rw [asgTs] at k
  exact k β1 H1 _ Step.rfl' rm1 (((rs1.set i rp).set j rq).set l rr)

/-! ### name = [.. for ..] -/
/-- what an assignment of a new thing to a name asks -/
def asgNew (c : Cf) (wx : WX) (i : Nat) (m : ME) : TS := fun D σ H => tF c wx m σ H fun x H1 => D.nx (σ.set i (some x)) H1
theorem asgNew_plain {c : Cf} {wx : WX} {i : Nat} {m : ME} {D : Ends} {σ : St} {H : Hp} (h : tS c wx (.asg (.var i) m) D σ H) : asgNew c wx i m D σ H := by
  obtain ⟨β, M, ρ, rm, rs, ok⟩ := h
  rw [execS] at ok
  refine ⟨β, M, ρ, rm, rs, (ok.ofR rs).later.imp fun β' M' v H' st rm' k p o hp fo => ?_⟩
  have k := k β' _ (Step.fresh o hp) (rm'.new o hp)
  rw [asgT] at k
  by_cases c1 : i < ρ.length
  case neg => rw [if_neg c1] at k; exact k.elim
  rw [if_pos c1] at k
  exact k β' _ _ Step.rfl' (rm'.new o hp) (((rs.step st).step (Step.fresh o hp)).set i (FO.rv rm' hp fo))
theorem asgNew_box {c : Cf} {wx : WX} {i : Nat} {m : ME} {D : Ends} {σ : St} {H : Hp} (h : tS c wx (.asg (.var i) (.box m)) D σ H) : asgNew c wx i m D σ H := by
  obtain ⟨β, M, ρ, rm, rs, ok⟩ := h
  rw [execS, evalE] at ok
  refine ⟨β, M, ρ, rm, rs, (ok.ofR rs).bind.imp fun β' M' v H' st rm' k p o hp fo => ?_⟩
  cases v with
  | fls xs =>
    obtain ⟨ys, rfl, r⟩ := fo
    have st' := Step.box (G := c.G) (β := β') (.lst ys) hp
    have rm2 := rm'.box (p := p) _ (.lst xs) hp ⟨ys, upd_same, RVs.step st' _ _ r⟩
    have k := k (β' ++ [p]) _ st' rm2
    dsimp only at k
    rw [asgT] at k
    by_cases c1 : i < ρ.length
    case neg => rw [if_neg c1] at k; exact k.elim
    rw [if_pos c1] at k
    refine k _ _ _ Step.rfl' rm2 (((rs.step st).step st').set i ⟨p, ?_, rfl⟩)
    rw [← rm'.len]; simp
  | fdc ks vs =>
    obtain ⟨kvs, rfl, hk, r⟩ := fo
    have st' := Step.box (G := c.G) (β := β') (.dK kvs) hp
    have rm2 := rm'.box (p := p) _ (.dct 0 ks vs) hp ⟨kvs, upd_same, hk, RVs.step st' _ _ r⟩
    have k := k (β' ++ [p]) _ st' rm2
    dsimp only at k
    rw [asgT] at k
    by_cases c1 : i < ρ.length
    case neg => rw [if_neg c1] at k; exact k.elim
    rw [if_pos c1] at k
    refine k _ _ _ Step.rfl' rm2 (((rs.step st).step st').set i ⟨p, ?_, rfl⟩)
    rw [← rm'.len]; simp
  | _ => exact fo.elim
theorem tS_setLc {c : Cf} {T : Tb} {N : List Str} {sc : Scope} {wx : WX} {X : Cx} (cx : Ctx c T N sc wx X) {i : Nat} {y : Str} {py : Pos} {elt tg iter : Expr} {ifs : List Expr} {scope : Scope} {own : List (Str × Nat)} {pos spos : Pos} {me : ME} {tgm : MT} {itm : MI} {csm : List ME}
    (hy : N[i]? = some y) (hyl : sc.names.lookup y = some .local) (hsw : swapsWith (.ListComp elt [⟨tg, iter, ifs, 0⟩] scope pos) (some (.Name y py)) spos.line X.env = pure true)
    (hI : PI X tg iter (tI c wx itm)) (bo : BlkOk N sc scope own) (hf : isSet iter = false) (hv : own.map (·.2) = tgVars tgm)
    (hg : ∀ (D : Addr) (X' : Cx), Ctx (c.hide D) T N (relS scope sc) NoX X' → (∀ x, X'.fn x = (scope.names.lookup x == some .cell)) → PG X' tg (tG (c.hide D) NoX tgm (tgVars tgm)))
    (ht : ∀ (D : Addr) (X' : Cx), Ctx (c.hide D) T N (relS scope sc) NoX X' → PTs X' ifs (tCs (c.hide D) NoX csm))
    (he : ∀ (D : Addr) (X' : Cx), Ctx (c.hide D) T N (relS scope sc) NoX X' → PE X' elt (tE (c.hide D) NoX me)) :
    PS X (.Assign [.Name y py] (.ListComp elt [⟨tg, iter, ifs, 0⟩] scope pos) spos) (asgNew c wx i (.lcomp me tgm itm csm)) := by
  refine PS.imp (ps_setLc (own := own) cx.calm (by rw [cx.names]; exact cx.nd) (by rw [cx.names]; exact hy) (by rw [cx.scope]; exact hyl) hsw hI (by rw [cx.names, cx.scope]; exact bo) (fun s H C cl fp => PG.ex fun D => hg D _ (cx.blk D s H scope C cl fp) fun x => rfl) (fun s H C cl fp => PTs.ex fun D => ht D _ (cx.blk D s H scope C cl fp)) (fun s H C cl fp => PE.ex fun D => he D _ (cx.blk D s H scope C cl fp)) (noFold hf)) fun D σ H h => tLc_of cx hv h

/-! ### calls with keywords -/
theorem PK.imp {X : Cx} {e : List Keyword} {t t' : TA} (p : PK X e t') (h : ∀ σ H Q, t σ H Q → t' σ H Q) : PK X e t :=
  ⟨fun pos pins s σ H Q I ht => p.run pos pins s σ H Q I (h σ H Q ht)⟩
theorem tK_nil {c : Cf} {wx : WX} {X : Cx} : PK X [] (tA c wx []) := by
  refine PK.imp pk_nil fun σ H Q => ?_
  rintro ⟨β, M, ρ, rm, rs, ok⟩
  rw [evalEs] at ok
  exact ok β H Step.rfl' rm [] rfl
theorem tK_cons {c : Cf} {wx : WX} {X : Cx} {e : Expr} {es : List Keyword} {nm : Option Str} {kp : Pos} {m : ME} {ms : List ME} (h : PE X e (tE c wx m)) (t : PK X es (tA c wx ms)) : PK X (⟨nm, e, kp⟩ :: es) (tA c wx (m :: ms)) := by
  refine PK.imp (pk_cons h t) fun σ H Q => ?_
  rintro ⟨β, M, ρ, rm, rs, ok⟩
  rw [evalEs] at ok
  refine ⟨β, M, ρ, rm, rs, ok.bind.imp fun β1 M1 v H1 st1 rm1 k x rx => ?_⟩
  refine ⟨β1, M1, ρ, rm1, rs.step st1, k.bind.imp fun β2 M2 vs H2 st2 rm2 k2 xs rxs => ?_⟩
  exact k2 β2 H2 Step.rfl' rm2 (x :: xs) ⟨x, xs, rfl, RV.step st2 _ _ rx, rxs⟩
theorem Res.bind_assoc {α β γ : Type} (r : Res α) (f : α → Mem → Res β) (g : β → Mem → Res γ) : (r.bind f).bind g = r.bind fun x M => (f x M).bind g := by
  cases r <;> rfl
theorem evalEs_app {P : MProg} {cal : Cal} : ∀ (ms ks : List ME) (ρ : Env) (M : Mem), evalEs P cal (ms ++ ks) ρ M = (evalEs P cal ms ρ M).bind fun xs M1 => (evalEs P cal ks ρ M1).bind fun ys M2 => .ok (xs ++ ys) M2
  | [], ks, ρ, M => by
    rw [evalEs]
    show evalEs P cal ks ρ M = _
    simp only [Res.bind]
    cases evalEs P cal ks ρ M <;> rfl
  | m :: ms, ks, ρ, M => by
    rw [List.cons_append, evalEs, evalEs, Res.bind_assoc]
    congr 1
    funext x M1
    rw [evalEs_app, Res.bind_assoc, Res.bind_assoc]
    congr 1
    funext xs M2
    rw [Res.bind_assoc]
    rfl
theorem tA_app {c : Cf} {wx : WX} {ms ks : List ME} {σ : St} {H : Hp} {Q : List V → Hp → Prop} (h : tA c wx (ms ++ ks) σ H Q) : tA c wx ms σ H (fun xs H1 => tA c wx ks σ H1 fun ys H2 => xs.length = ms.length ∧ ys.length = ks.length ∧ Q (xs ++ ys) H2) := by
  obtain ⟨β, M, ρ, rm, rs, ok⟩ := h
  rw [evalEs_app] at ok
  refine ⟨β, M, ρ, rm, rs, ok.bind.eq.imp fun β1 M1 vs H1 st1 rm1 k xs rxs => ?_⟩
  refine ⟨β1, M1, ρ, rm1, rs.step st1, k.2.bind.eq.imp fun β2 M2 us H2 st2 rm2 k2 ys rys => ?_⟩
  refine ⟨by rw [rxs.len, evalEs_len k.1], by rw [rys.len, evalEs_len k2.1], ?_⟩
  exact k2.2 β2 H2 Step.rfl' rm2 _ ((RVs.step st2 _ _ rxs).app rys)
/-- the keywords' names -/
def kwNames : List Keyword → Option (List Str)
  | [] => some []
  | ⟨some n, _, _⟩ :: r => (kwNames r).map (n :: ·)
  | _ => none
theorem kw_all {env : PySem.Env} {pos : Pos} : ∀ {kws : List Keyword} {ks : List Str}, kwNames kws = some ks → (backToKw pos (keywordEach kws env)).all (fun x => x.1.isSome) = true ∧ (backToKw pos (keywordEach kws env)).filterMap (fun x => x.1) = ks ∧ (backToKw pos (keywordEach kws env)).any (fun x => x.1.isNone) = false
  | [], ks, h => by cases h; exact ⟨rfl, rfl, rfl⟩
  | ⟨none, _, _⟩ :: r, ks, h => by cases h
  | ⟨some n, e, kp⟩ :: r, ks, h => by
    obtain ⟨ks', hk, rfl⟩ := Option.map_eq_some_iff.mp h
    obtain ⟨h1, h2, h3⟩ := kw_all (env := env) (pos := pos) hk
    have e1 : backToKw pos (keywordEach (⟨some n, e, kp⟩ :: r) env) = (some n, do let v ← eval e env; standAt pos; pure v) :: backToKw pos (keywordEach r env) := rfl
    rw [e1]
    refine ⟨by rw [List.all_cons, h1]; rfl, ?_, by rw [List.any_cons, h3]; rfl⟩
    rw [List.filterMap_cons, h2]
/-- the values of a call, whatever their number -/
theorem callWith_any {X : Cx} {pins : List (Addr × Obj)} {s : Shared} {σ : St} {H : Hp} {pos : Pos} {f : Value} {first : List Value} {es : List Expr} {kws : List Keyword} {ks : List Str} {t tk : TA} {R : List V → List V → Hp → Prop} {Q : Value → Shared → Prop}
    (I : L2.Inv X pins σ H s) (hk : W.keepIn X.K f = true) (hs : es.all (fun e => !isStar e) = true) (hn : kwNames kws = some ks) (ha : PA X es t) (h0 : ∀ Q, es = [] → t σ H Q → Q [] H) (hkk : PK X kws tk) (h : t σ H fun vs H1 => tk σ H1 fun zs H2 => R vs zs H2)
    (hc : ∀ (us ws : List Value) (vs zs : List V) (H2 : Hp) (s2 : Shared), L2.Inv X pins σ H2 s2 → Vals vs us → Vals zs ws → R vs zs H2 → wpAny (model X.prog X.w) X.A (call f (first ++ us) (ks.zip ws)) Q X.xe s2) :
    wpAny (model X.prog X.w) X.A (callWith pos f first (backTo pos (starEach es X.env)) (backToKw pos (keywordEach kws X.env))) Q X.xe s := by
  obtain ⟨h1, h2, h3⟩ := kw_all (env := X.env) (pos := pos) hn
  cases es with
  | nil =>
    refine W.callWith_KW0 (h₀ := X.base) I.ok.mod.kin hk h1 ?_ (by rw [h3]; rfl)
    have q := h0 _ rfl h
    refine thn (hkk.run pos pins s σ H _ I q) fun ws s2 x => ?_
    obtain ⟨zs, H2, I2, rz, q2⟩ := x
    refine ⟨I2.kIn, ?_⟩
    rw [h2]
    exact hc [] ws [] zs H2 s2 I2 .nil rz q2
  | cons e es =>
    have hs1 : isStar e = false := by simpa using (List.all_eq_true.mp hs e (List.mem_cons_self ..))
    refine W.callWith_KW (h₀ := X.base) I.ok.mod.kin hk h1 (thn (ha.run pos pins s σ H _ I h) fun us s1 x => ?_) (by rw [h3, Bool.or_false]; exact starsNil hs) (notStar hs1)
    obtain ⟨vs, H1, I1, r, q⟩ := x
    refine thn (hkk.run pos pins s1 σ H1 _ I1 q) fun ws s2 x => ?_
    obtain ⟨zs, H2, I2, rz, q2⟩ := x
    refine ⟨I2.kIn, ?_⟩
    rw [h2]
    exact hc us ws vs zs H2 s2 I2 r rz q2
end Mi
/-! Mini, part X: calls with keywords, of Mini. -/
set_option autoImplicit false
set_option linter.all false
namespace Mi
open PySem L2

theorem run_fnNS {X : Cx} {CX' : CXT} {k n : Nat} {f : Addr} {fd : FuncData} {ps ks : List Str} {sp : Sp} {E : XK} {g : List Value → List Value → List Value} {gV : List V → List V → List V} {pins : List (Addr × Obj)} {σ : St} {H : Hp} {s : Shared} {Q : VK} {us ws : List Value} {vs zs : List V} (F : FnOk X.prog X.w X.K X.mg X.base CX' k f fd ps sp) (hr : Room k X.A) (hqt : Quiet X.A) (hb : KBn X.K fd ps n ks g gV) (hx : PassesAt CX' X σ E)
    (I : L2.Inv X pins σ H s) (r : Vals vs us) (rz : Vals zs ws) (l1 : vs.length = n) (l2 : zs.length = ks.length) (h : sp (gV vs zs) H Q E) : wpAny (model X.prog X.w) X.A (call (.ref f) us (ks.zip ws)) (EP X pins σ Q) X.xe s := by
  have r2 := hb.rel r rz
  refine wpAny_call (codeAny_mono (F.run X.A X.stack s H ⟨us, ks.zip ws⟩ (g us ws) (gV vs zs) Q E hr hqt I.env0 (hb.to s us ws I.kIn (r.length.symm.trans l1) (rz.length.symm.trans l2)) r2 h) fun r s' hq => ?_)
  cases r with
  | error e => exact hx pins H s e s' I hq
  | ok fl =>
    cases fl with
    | ret u => exact I.after hq
    | next => exact False.elim hq
    | brk => exact False.elim hq
    | cont => exact False.elim hq
theorem run_makeNS {X : Cx} {CX' : CXT} {k n : Nat} {f C : Addr} {fd : FuncData} {ps ks : List Str} {sp : Sp} {E : XK} {g : List Value → List Value → List Value} {gV : List V → List V → List V} {pins : List (Addr × Obj)} {σ : St} {H : Hp} {s : Shared} {Q : VK} {us ws : List Value} {vs zs : List V} (M : Mk X.K C f) (F : FnOk X.prog X.w X.K X.mg X.base CX' k f fd ps sp) (hr : Room (k + 1) X.A) (hqt : Quiet X.A) (hb : KBn X.K fd ps (n + 1) ks g gV)
    (hx : PassesAt CX' X σ E) (I : L2.Inv X pins σ H s) (r : Vals vs us) (rz : Vals zs ws) (l1 : vs.length = n) (l2 : zs.length = ks.length)
    (h : ∀ (x dx : Addr), H x = none → H dx = none → dx ≠ x → sp (gV (.ref x :: vs) zs) (upd (upd H dx (.own x)) x (.ins C dx [])) (fun v H2 => v = .non ∧ Q (.ref x) H2) E) :
    wpAny (model X.prog X.w) X.A (call (.ref C) us (ks.zip ws)) (EP X pins σ Q) X.xe s := by
  have hq := h (s.heap.objs.size + 1) s.heap.objs.size (I.hok.fresh (Nat.le_succ _)) (I.hok.fresh (Nat.le_refl _)) (Nat.ne_of_lt (Nat.lt_succ_self _))
  have I2 := Inv.made (C := C) I
  have r1 : Vals (V.ref (s.heap.objs.size + 1) :: vs) (Value.ref (s.heap.objs.size + 1) :: us) := .cons rfl r
  have r2 := hb.rel r1 rz
  have e1 : (Value.ref (s.heap.objs.size + 1) :: us).length = n + 1 := r1.length.symm.trans (congrArg Nat.succ l1)
  have e2 : ws.length = ks.length := rz.length.symm.trans l2
  refine wpAny_call (make_map (f := f) I.kIn M.makes M.init (beq_iff_eq.mp M.fn) (codeAny_mono (F.run _ X.stack _ _ ⟨Value.ref (s.heap.objs.size + 1) :: us, ks.zip ws⟩ (g (Value.ref (s.heap.objs.size + 1) :: us) ws) _ _ E (hr.make C us (ks.zip ws)) (hqt.make C us (ks.zip ws))
    (I2.env0.make C us (ks.zip ws)) (hb.to _ (Value.ref (s.heap.objs.size + 1) :: us) ws I2.kIn e1 e2) r2 hq) fun r s' hq' => ?_))
  cases r with
  | error e => exact hx pins _ _ e s' I2 hq'
  | ok fl =>
    cases fl with
    | ret u =>
      obtain ⟨v, H', I3, rv, ev, q3⟩ := I2.after hq'
      subst ev
      exact ⟨rv, ⟨V.ref (s.heap.objs.size + 1), H', I3, rfl, q3⟩⟩
    | next => exact False.elim hq'
    | brk => exact False.elim hq'
    | cont => exact False.elim hq'
theorem tA_nil0 {c : Cf} {wx : WX} {ms : List ME} {es : List Expr} {σ : St} {H : Hp} (hl : es.length = ms.length) : ∀ Q : List V → Hp → Prop, es = [] → tA c wx ms σ H Q → Q [] H := by
  rintro Q rfl ⟨β, M, ρ, rm, rs, ok⟩
  cases ms with
  | cons m ms => simp at hl
  | nil =>
    rw [evalEs] at ok
    exact ok β H Step.rfl' rm [] rfl
/-- what a call asks, its values being told -/
abbrev RK (c : Cf) (wx : WX) (σ : St) (n m : Nat) (how : List MB) (go : List MV → Mem → Res MV) (Q : VK) : List V → List V → Hp → Prop := fun vs zs H => vs.length = n ∧ zs.length = m ∧ ∃ β M us, RelM c.G β M H ∧ RVs c.G β H us (vs ++ zs) ∧ ∃ ws, bindArgs us how = some ws ∧ OkR c (fun cl d => wx cl d σ) β H (go ws M) (KQ c Q)
theorem rk_of {c : Cf} {wx : WX} {σ : St} {H : Hp} {ms mk : List ME} {how : List MB} {go : List MV → Mem → Res MV} {Q : VK} {β : List Addr} {M : Mem} {ρ : Env} (rm : RelM c.G β M H) (rs : RelS c.G β H ρ σ)
    (ok : OkR c (fun cl d => wx cl d σ) β H ((evalEs c.P c.cal (ms ++ mk) ρ M).bind fun vs M1 => match bindArgs vs how with
      | some ws => go ws M1
      | none => .err) (KQ c Q)) : tA c wx ms σ H (fun xs H1 => tA c wx mk σ H1 fun ys H2 => RK c wx σ ms.length mk.length how go Q xs ys H2) := by
  have h : tA c wx (ms ++ mk) σ H (fun xs H2 => ∃ β M us, RelM c.G β M H2 ∧ RVs c.G β H2 us xs ∧ ∃ ws, bindArgs us how = some ws ∧ OkR c (fun cl d => wx cl d σ) β H2 (go ws M) (KQ c Q)) := by
    refine ⟨β, M, ρ, rm, rs, ok.bind.imp fun β1 M1 vs H1 st1 rm1 k xs rxs => ?_⟩
    split at k
    · rename_i ws hw
      exact ⟨β1, M1, vs, rm1, rxs, ws, hw, k⟩
    · exact k.elim
  have h2 := tA_app h
  exact h2
theorem tE_callK {c : Cf} {T : Tb} {N : List Str} {sc : Scope} {wx : WX} {X : Cx} (cx : Ctx c T N sc wx X) {f : Str} {es : List Expr} {kws : List Keyword} {p pos : Pos} {ms mk : List ME} {ks : List Str} {how : List MB} (hq : ⟨f, es.length, ks, how⟩ ∈ T.kws) (hf : f ∈ T.plain) (hg : Gl X f) (hn : okN f = true) (hss : es.all (fun e => !isStar e) = true) (hk : kwNames kws = some ks)
    (l1 : es.length = ms.length) (l2 : ks.length = mk.length) (ha : PA X es (tA c wx ms)) (hkk : PK X kws (tA c wx mk)) : PE X (.Call (.Name f p) es kws pos) (tE c wx (.callK f (ms ++ mk) how)) := by
  obtain ⟨fa, fd, hfa, hmg⟩ := cx.stat.plain f hf
  obtain ⟨d, hd, F, hb, hkeep⟩ := fnok_at cx hfa
  obtain ⟨g, gV, kb, hgV⟩ := cx.stat.kws _ hq d fa fd hd hfa
  refine ⟨fun pins s σ H Q I h => wpAny_Call_Name_kw (ld_glob I hg (cx.mg ▸ hmg) ?_ (okN_d hn))⟩
  obtain ⟨β, M, ρ, rm, rs, ok⟩ := h
  rw [evalE] at ok
  refine callWith_any (R := RK c wx σ ms.length mk.length how (fun ws M1 => c.cal f ws M1) Q) I hkeep hss hk ha (tA_nil0 l1) hkk (rk_of rm rs ok) fun us ws vs zs H2 s2 I2 r1 r2 hR => ?_
  obtain ⟨e1, e2, β2, M2, mv, rm2, rmv, mw, hmw, ok2⟩ := hR
  have hbv := hgV vs zs (e1.trans l1.symm) (e2.trans l2.symm)
  exact run_fnNS F (cx.room.mono (by omega)) cx.quiet (cx.K ▸ kb) (cx.pa σ) I2 r1 r2 (e1.trans l1.symm) (e2.trans l2.symm) ⟨β2, M2, mw, rm2, bind_rel rmv hmw hbv, ok2⟩
theorem tE_newK {c : Cf} {T : Tb} {N : List Str} {sc : Scope} {wx : WX} {X : Cx} (cx : Ctx c T N sc wx X) {cn f : Str} {es : List Expr} {kws : List Keyword} {p pos : Pos} {ms mk : List ME} {ks : List Str} {how : List MB} {d : CDef} (hd : clsOf c.P cn = some d) (hf : d.meths.lookup ("__init__" : Str) = some f) (hq : ⟨f, es.length, ks, how⟩ ∈ T.kwm) (hg : Gl X cn) (hn : okN cn = true) (hss : es.all (fun e => !isStar e) = true) (hk : kwNames kws = some ks)
    (l1 : es.length = ms.length) (l2 : ks.length = mk.length) (ha : PA X es (tA c wx ms)) (hkk : PK X kws (tA c wx mk)) : PE X (.Call (.Name cn p) es kws pos) (tE c wx (.newK cn (ms ++ mk) how)) := by
  obtain ⟨C, ci⟩ := cx.stat.cls cn d hd
  have hnm : d.nm = cn := by simpa using List.find?_some hd
  subst hnm
  obtain ⟨fa, fd, hfa, hmk⟩ := ci.make_ f hf
  obtain ⟨d', hd', F, hb, hkeep⟩ := fnok_at cx hfa
  obtain ⟨g, gV, kb, hgV⟩ := cx.stat.kwm _ hq d' fa fd hd' hfa
  have hmk' : Mk X.K C fa := cx.K ▸ hmk
  refine ⟨fun pins s σ H Q I h => wpAny_Call_Name_kw (ld_glob I hg (cx.mg ▸ ci.mg) ?_ (okN_d hn))⟩
  obtain ⟨β, M, ρ, rm, rs, ok⟩ := h
  rw [evalE] at ok
  refine callWith_any (R := RK c wx σ ms.length mk.length how (fun ws M1 => make c.P c.cal d.nm ws M1) Q) I hmk'.kp hss hk ha (tA_nil0 l1) hkk (rk_of rm rs ok) fun us ws vs zs H2 s2 I2 r1 r2 hR => ?_
  obtain ⟨e1, e2, β1, M1, mv, rm1, rmv, mw, hmw, k⟩ := hR
  refine run_makeNS hmk' F (cx.room.mono (by omega)) cx.quiet (cx.K ▸ kb) (cx.pa σ) I2 r1 r2 (e1.trans l1.symm) (e2.trans l2.symm) fun x dx hx hdx hne => ?_
  obtain ⟨wv, hwv, hgx⟩ := hgV (.ref x) vs zs (e1.trans l1.symm) (e2.trans l2.symm)
  have hx' : (upd H2 dx (.own x)) x = none := by rw [upd_ne (Ne.symm hne)]; exact hx
  have st2 := (Step.fresh (G := c.G) (β := β1) (.own x) hdx).trans (Step.box (.ins C dx []) hx')
  have rm2 : RelM c.G (β1 ++ [x]) (M1 ++ [.ins d.nm [] []]) (upd (upd H2 dx (.own x)) x (.ins C dx [])) := (rm1.new (.own x) hdx).box _ _ hx' ⟨C, dx, [], ci.at_, upd_same, rfl, rfl⟩
  rw [hgx]
  refine ⟨β1 ++ [x], M1 ++ [.ins d.nm [] []], .ref M1.length :: mw, rm2, ⟨_, _, rfl, ⟨x, by rw [← rm1.len]; simp, rfl⟩, RVs.step st2 _ _ (bind_rel rmv hmw hwv)⟩, ?_⟩
  unfold make at k
  rw [hd] at k
  simp only [hf] at k
  have fin : OkR c (fun cl dd => wx cl dd σ) (β1 ++ [x]) (upd (upd H2 dx (.own x)) x (.ins C dx [])) ((c.cal f (.ref M1.length :: mw) (M1 ++ [.ins d.nm [] []])).bind fun v M' => if v = .non then Res.ok (.ref M1.length) M' else .err) (KQ c Q) := by
    split at k
    · exact OkR.finR rm1 st2 k
    · exact OkR.from k st2
  refine fin.bind.imp fun β3 M3 v H3 st3 rm3 k3 z rz => ?_
  split at k3
  · rename_i hv
    subst hv
    refine ⟨rz, k3 β3 H3 Step.rfl' rm3 _ ⟨x, ?_, rfl⟩⟩
    refine st3.at ?_
    rw [← rm1.len]; simp
  · exact k3.elim
theorem form_okK {es : List Expr} {kws : List Keyword} {ks : List Str} {env : PySem.Env} {pos : Pos} (hs : es.all (fun e => !isStar e) = true) (hk : kwNames kws = some ks) (hl : es.length + kws.length < 29) : methodCallForm (es.length + kws.length) (backTo pos (starEach es env)) (backToKw pos (keywordEach kws env)) = true := by
  have h1 : ((backTo pos (starEach es env)).all fun x => !x.1) = true := by
    have := starsNil (env := env) (pos := pos) hs
    rw [List.all_eq_not_any_not]
    simpa using this
  have h2 := (kw_all (env := env) (pos := pos) hk).1
  unfold methodCallForm
  rw [h1, h2]
  simp
  split <;> omega
theorem ht_genK (o : Expr) (es : List Expr) (kws : List Keyword) (m : Str) (apos pos : Pos) (env : PySem.Env) {ks : List Str} (h : bareCall o = false) (hs : es.all (fun e => !isStar e) = true) (hk : kwNames kws = some ks) (hl : es.length + kws.length < 29) (hp : (apos.endLine == pos.line) = true) : ∃ pl : Sem Bool, eval ((o.Attribute m apos).Call es kws pos) env = (do
      let ov ← eval o env
      standAt apos.atName
      let __x ← holding [ov] (getMethod ov m pl)
      match __x with
      | (f, first) => callWith pos f first (backTo pos (starEach es env)) (backToKw pos (keywordEach kws env))) := by
  refine ⟨(do let r ← importBound o env; pure (r.getD true)), ?_⟩
  rw [eval, attrB h]
  unfold methodCall
  rw [form_okK hs hk hl]
  unfold calleeOf methodCallPos
  rw [hp]
  rfl
theorem tE_methK {c : Cf} {T : Tb} {N : List Str} {sc : Scope} {wx : WX} {X : Cx} (cx : Ctx c T N sc wx X) {o : Expr} {es : List Expr} {kws : List Keyword} {m : Str} {apos pos : Pos} {mo : ME} {ms mk : List ME} {ks : List Str} {how : List MB} (hq : ∀ cn d f, clsOf c.P cn = some d → d.meths.lookup m = some f → ⟨f, es.length, ks, how⟩ ∈ T.kwm) (ho : PE X o (tE c wx mo)) (hbc : bareCall o = false) (hss : es.all (fun e => !isStar e) = true) (hk : kwNames kws = some ks) (hl : es.length + kws.length < 29) (hp : (apos.endLine == pos.line) = true)
    (l1 : es.length = ms.length) (l2 : ks.length = mk.length) (ha : PA X es (tA c wx ms)) (hkk : PK X kws (tA c wx mk)) : PE X (.Call (.Attribute o m apos) es kws pos) (tE c wx (.methK mo m (ms ++ mk) how)) := by
  obtain ⟨pl, ht⟩ := ht_genK o es kws m apos pos X.env hbc hss hk hl hp
  refine ⟨fun pins s σ H Q I h => W.methodCall_KW (pl := pl) ?_ ht⟩
  obtain ⟨β, M, ρ, rm, rs, ok⟩ := h
  rw [evalE] at ok
  cases ev : evalE c.P c.cal mo ρ M with
  | err => rw [ev] at ok; exact ok.elim
  | ex cn ns vs M' =>
    rw [ev] at ok
    refine thn (ho.run pins s σ H (fun _ _ => False) I ⟨β, M, ρ, rm, rs, by rw [ev]; exact ok⟩) fun u s1 x => ?_
    obtain ⟨_, _, _, _, hf⟩ := x
    exact hf.elim
  | ok v M1 =>
    rw [ev] at ok
    simp only [Res.bind] at ok
    cases hmo : methOf c.P M1 v m with
    | none => rw [hmo] at ok; exact ok.elim
    | some f =>
      rw [hmo] at ok
      simp only at ok
      obtain ⟨cn, ns, vs0, d, C, fa, fd, hv, hns, hd, hnm, ci, hC, hfa, hmm⟩ := methOf_at cx hmo
      have hlk : d.meths.lookup m = some f := by
        unfold methOf at hmo
        rw [hv] at hmo
        simp only [hns, hd] at hmo
        simpa using hmo
      obtain ⟨d', hd', F, hb, hkeep⟩ := fnok_at cx hfa
      obtain ⟨g, gV, kb, hgV⟩ := cx.stat.kwm _ (hq cn d f hd hlk) d' fa fd hd' hfa
      have hmm' : Meth X.K C m fa := cx.K ▸ hmm
      refine thn (ho.run pins s σ H (fun x H1 => ∃ (a dx : Addr) (fs : List (Str × V)), x = .ref a ∧ H1 a = some (.ins C dx fs) ∧ fs.lookup m = none ∧ ∃ β1, RelM c.G β1 M1 H1 ∧ Step c.G β H β1 H1 ∧ RV c.G β1 H1 v x) I ⟨β, M, ρ, rm, rs, ?_⟩) fun u s1 x => ?_
      · rw [ev]
        intro β1 H1 st1 rm1 x rx
        obtain ⟨a, C1, dx, ys, rfl, hc1, hi1, hl1, r1⟩ := fields_at rm1 rx hv
        rw [hC] at hc1; cases hc1
        exact ⟨a, dx, _, rfl, hi1, zip_lookup hns, β1, rm1, st1, rx⟩
      · obtain ⟨x, H1, I1, rx, a, dx, fs, rfl, ea, l, β1, rm1, st1, rxv⟩ := x
        cases (show u = .ref a from rx)
        refine getmeth_ok I1 ea (cx.K ▸ ci.cls) hmm' l ?_
        refine callWith_any (R := fun vs zs H2 => vs.length = ms.length ∧ zs.length = mk.length ∧ ∃ β M us, RelM c.G β M H2 ∧ RVs c.G β H2 us (vs ++ zs) ∧ RV c.G β H2 v (.ref a) ∧ ∃ ws, bindArgs us how = some ws ∧ OkR c (fun cl d => wx cl d σ) β H2 (c.cal f (v :: ws) M) (KQ c Q)) I1 hmm'.kp hss hk ha (tA_nil0 l1) hkk ?_ fun us ws vs zs H2 s2 I2 r1 r2 hR => ?_
        · have h : tA c wx (ms ++ mk) σ H1 (fun xs H2 => ∃ β M us, RelM c.G β M H2 ∧ RVs c.G β H2 us xs ∧ RV c.G β H2 v (.ref a) ∧ ∃ ws, bindArgs us how = some ws ∧ OkR c (fun cl d => wx cl d σ) β H2 (c.cal f (v :: ws) M) (KQ c Q)) := by
            refine ⟨β1, M1, ρ, rm1, rs.step st1, (OkR.from ok st1).bind.imp fun β2 M2 vs H2 st2 rm2 k xs rxs => ?_⟩
            split at k
            · rename_i ws hw
              exact ⟨β2, M2, vs, rm2, rxs, RV.step st2 _ _ rxv, ws, hw, k⟩
            · exact k.elim
          exact tA_app h
        · obtain ⟨e1, e2, β2, M2, mv, rm2, rmv, rv2, mw, hmw, ok2⟩ := hR
          obtain ⟨wv, hwv, hgx⟩ := hgV (.ref a) vs zs (e1.trans l1.symm) (e2.trans l2.symm)
          refine run_fnNS (n := es.length + 1) F (cx.room.mono (by omega)) cx.quiet (cx.K ▸ kb) (cx.pa σ) I2 (.cons (show RelV (.ref a) (.ref a) from rfl) r1) r2 (by simp [e1, l1]) (e2.trans l2.symm) ?_
          rw [hgx]
          exact ⟨β2, M2, v :: mw, rm2, ⟨_, _, rfl, rv2, bind_rel rmv hmw hwv⟩, ok2⟩
end Mi
/-! Mini, part Xb: raise, try, fields of exceptions. -/
set_option autoImplicit false
set_option linter.all false
namespace Mi
open PySem L2

theorem passF' {P : Program} {w : World} {X : Cx} : Passes (CX P w) X (fun _ _ _ => False) := passF
theorem tS_raise {c : Cf} {T : Tb} {N : List Str} {sc : Scope} {wx : WX} {X : Cx} (cx : Ctx c T N sc wx X) (hf : FnCx wx X) {x : Str} {e : Expr} {es : List Expr} {p pos pos' : Pos} {ms : List ME} (hx : (excOf c.P x).isSome = true) (hg : Gl X x) (hn : okN x = true) (hs : isStar e = false) (hss : es.all (fun e => !isStar e) = true) (ha : PA X (e :: es) (tA c wx ms)) : PS X (.Raise (some (.Call (.Name x p) (e :: es) [] pos)) none pos') (tS c wx (.raise x ms)) := by
  obtain ⟨d, hd⟩ := Option.isSome_iff_exists.mp hx
  obtain ⟨C, xi⟩ := cx.stat.exc x d hd
  have hnm : d.nm = x := by simpa using List.find?_some hd
  have hC : c.G.cls x = some C := hnm ▸ xi.at_
  obtain ⟨fI, fd, ps, iC, tI, F, hb, _⟩ := cx.xin x d C hd hC
  rw [← cx.K, ← cx.mg] at F
  refine PS.imp (ps_raise cx.calm hf.tk (pmk_oex (CX := CX X.prog X.w) (cx.K ▸ xi.oex) (cx.K ▸ iC) (cx.K ▸ tI) F (cx.room.mono (by unfold lev; omega)) (cx.K ▸ hb) .nil passF hg (cx.mg ▸ hnm ▸ xi.mg) ha (okN_d hn) (notStar hs) (starsNil hss))) fun D σ H => ?_
  rintro ⟨β, M, ρ, rm, rs, ok⟩
  rw [execS] at ok
  refine ⟨β, M, ρ, rm, rs, (ok.ofR rs).imp fun β1 M1 vs H1 st1 rm1 k xs rxs => ?_⟩
  rw [hd] at k
  dsimp only at k
  split at k
  case isFalse => exact k.elim
  rename_i hl
  have hxl := rxs.len
  have hle := xi.len
  refine ⟨by omega, fun a na => ⟨a, xs, by simp, by omega, upd_same, fun dx fs hdx hne hlk => ⟨rfl, dx, fs, upd_same, ?_, ?_, ?_⟩⟩⟩
  · rw [upd_ne hne, upd_same]
  · rw [upd_ne hne] at hdx; exact hdx
  · have hdx' : H1 dx = none := by rw [upd_ne hne] at hdx; exact hdx
    have e1 : upd (L2.del (upd (upd (upd H1 a (exo a C none)) dx (exd dx fs)) a (exo a C (some dx))) a) dx (.xd fs) = upd H1 dx (.xd fs) := by
      funext b
      by_cases hb : b = dx
      · subst hb; rw [upd_same, upd_same]
      · rw [upd_ne hb, upd_ne hb]
        by_cases hba : b = a
        · subst hba; rw [L2.del_same, na]
        · rw [L2.del_ne hba, upd_ne hba, upd_ne hb, upd_ne hba]
    rw [e1]
    have st2 := Step.fresh (G := c.G) (β := β1) (.xd fs) hdx'
    exact k β1 _ σ C dx xs st2 (rm1.new _ hdx') ((rs.step st1).step st2) hC ⟨⟨fs, upd_same, hlk⟩, rm1.fresh hdx', by omega⟩ (RVs.step st2 _ _ rxs)

/-! ### try -/
/-- the clauses of Mini and of the program -/
inductive HdM (c : Cf) (X : Cx) : List ExceptHandler → List MH → List (Value × Option Nat × TS) → Prop
  | nil : HdM c X [] [] []
  | cons {x : Str} {cv : Value} {oi : Option Nat} {ms : List MS} {h : ExceptHandler} {hds : List ExceptHandler} {mhs : List MH} {l : List (Value × Option Nat × TS)}
      (hm : ∀ n d C, excOf c.P n = some d → c.G.cls n = some C → W.exmOne c.G.K (.ref C) cv = some (catches c.P x n))
      (hd : ∀ {hds l}, HdV X hds l → HdV X (h :: hds) ((cv, oi, tSs c NoX ms) :: l)) (r : HdM c X hds mhs l) : HdM c X (h :: hds) (.mk [x] oi ms :: mhs) ((cv, oi, tSs c NoX ms) :: l)
theorem HdM.hdV {c : Cf} {X : Cx} : ∀ {hds : List ExceptHandler} {mhs : List MH} {l : List (Value × Option Nat × TS)}, HdM c X hds mhs l → HdV X hds l
  | _, _, _, .nil => .nil
  | _, _, _, .cons _ hd r => hd r.hdV
theorem OutK.noX {c : Cf} {wx : WX} {D : Ends} {β : List Addr} {H : Hp} {o : Out} (h : OutK c wx D β H (noXs o)) : OutK c NoX D β H o := by
  cases o with
  | ex _ _ _ _ _ => exact h.elim
  | _ => exact h
theorem OutK.named {c : Cf} {wx : WX} {D : Ends} {β : List Addr} {H : Hp} {i : Nat} {o : Out} (h : OutK c wx D β H (match o with
        | .nx ρ1 M1 => .nx (ρ1.set i none) M1
        | .bk ρ1 M1 => .bk (ρ1.set i none) M1
        | .ct ρ1 M1 => .ct (ρ1.set i none) M1
        | .rt v M1 => .rt v M1
        | _ => .err)) : OutK c NoX (endV D (some i)) β H o := by
  cases o with
  | nx ρ M => exact fun β' H' σ' s m r => h β' H' _ s m (r.unset i)
  | bk ρ M => exact fun β' H' σ' s m r => h β' H' _ s m (r.unset i)
  | ct ρ M => exact fun β' H' σ' s m r => h β' H' _ s m (r.unset i)
  | rt v M => exact h
  | ex _ _ _ _ _ => exact h.elim
  | err => exact h.elim
theorem wTry_of {c : Cf} {wx : WX} {X : Cx} (hK : X.K = c.G.K) {D : Ends} {β : List Addr} {H : Hp} {cn : Str} {xd : XDef} {C dx : Addr} {ns : List Str} {vs : List MV} {xs : List V} {ρ : Env} {σ : St} {M : Mem} (hx : excOf c.P cn = some xd) (rm : RelM c.G β M H) (rs : RelS c.G β H ρ σ) (hC : c.G.cls cn = some C) (hd : XD c.G β H dx ns xs) (rx : RVs c.G β H vs xs) : ∀ {hds : List ExceptHandler} {mhs : List MH} {l : List (Value × Option Nat × TS)}, HdM c X hds mhs l → OutK c wx D β H (execHs c.P c.cal c.W mhs cn ns vs ρ M) → wTry X.K wx D l (.ref C) (some dx) σ H
  | _, _, _, .nil, ok => by
    rw [execHs] at ok
    exact ok β H σ C dx xs Step.rfl' rm rs hC hd rx
  | _, _, _, .cons (x := x) (oi := oi) (ms := ms) hm hv r, ok => by
    unfold execHs at ok
    refine ⟨_, hK ▸ hm cn xd C hx hC, fun hb => ?_, fun hb => ?_⟩
    · simp only [List.any_cons, List.any_nil, Bool.or_false] at ok
      rw [if_pos hb] at ok
      refine ⟨C, dx, rfl, rfl, fun a na => ?_⟩
      obtain ⟨⟨fs, hfs, hlk⟩, ho, hl⟩ := hd
      have st := Step.fresh (G := c.G) (β := β) (exv a C dx) na
      have hne : dx ≠ a := fun z => by rw [z, na] at hfs; cases hfs
      cases oi with
      | none => exact ⟨β, M, ρ, rm.new _ na, rs.step st, OutK.from ok.noX st⟩
      | some i =>
        refine ⟨β, M, ρ.set i (some (.exn cn ns vs)), rm.new _ na, (rs.step st).set i ?_, OutK.from (OutK.named ok) st⟩
        exact ⟨a, C, dx, xs, fs, rfl, rm.fresh na, ho, hC, upd_same, by rw [upd_ne hne]; exact hfs, hlk, by rw [hl, rx.len], RVs.step st _ _ rx⟩
    · simp only [List.any_cons, List.any_nil, Bool.or_false] at ok
      rw [hb] at ok
      exact wTry_of hK hx rm rs hC hd rx r ok
theorem Ctx.tr {c : Cf} {T : Tb} {N : List Str} {sc : Scope} {wx W : WX} {X : Cx} (cx : Ctx c T N sc wx X) {pn : List (Addr × Obj)} {xe : Value → Shared → Prop} (tk : Takes (X.tr pn xe) W) (po : PassesOwn (model X.prog X.w) X.A X.env xe) : Ctx c T N sc W (X.tr pn xe) where
  K := cx.K
  mg := cx.mg
  names := cx.names
  scope := cx.scope
  nd := cx.nd
  calm := cx.calm
  room := cx.room
  quiet := cx.quiet
  stat := cx.stat
  fns := cx.fns
  pa := fun σ => passAt tk σ
  po := po
  xin := cx.xin
theorem FnCx.tr {wx W : WX} {X : Cx} (hf : FnCx wx X) {pn : List (Addr × Obj)} {xe : Value → Shared → Prop} (tk : Takes (X.tr pn xe) W) : FnCx W (X.tr pn xe) := ⟨hf.fn, tk, hf.stk, hf.frm, hf.ex⟩
theorem Ctx.suite {c : Cf} {T : Tb} {N : List Str} {sc : Scope} {wx : WX} {X : Cx} (cx : Ctx c T N sc wx X) (a : Addr) (pn : List (Addr × Obj)) : Ctx0 c T N sc (X.suite a pn) := ⟨cx.K, cx.mg, cx.names, cx.scope, cx.nd, cx.quiet, cx.units, cx.stat⟩
theorem tS_try {c : Cf} {T : Tb} {N : List Str} {sc : Scope} {wx : WX} {X : Cx} (cx : Ctx c T N sc wx X) (hf : FnCx wx X) {body : List Stmt} {h₀ : ExceptHandler} {hds : List ExceptHandler} {pos : Pos} {mb : List MS} {mhs : List MH} {l : List (Value × Option Nat × TS)}
    (hb : ∀ (W : WX) (pn : List (Addr × Obj)) (xe : Value → Shared → Prop), Ctx c T N sc W (X.tr pn xe) → FnCx W (X.tr pn xe) → PSs (X.tr pn xe) body (tSs c W mb)) (hh : HdM c X (h₀ :: hds) mhs l) : PS X (.Try body (h₀ :: hds) [] [] pos) (tS c wx (.tryS mb mhs)) := by
  refine PS.imp (ps_tryV (Wout := wx) (tb := fun W => tSs c W mb) hf.stk hf.frm (by rw [cx.names]; exact cx.nd) hf.tk (fun W pn xe tk po => hb W pn xe (cx.tr tk po) (hf.tr tk)) hh.hdV) fun D σ H => ?_
  rintro ⟨β, M, ρ, rm, rs, ok⟩
  rw [execS] at ok
  refine ⟨β, M, ρ, rm, rs, ?_⟩
  revert ok
  cases execSs c.P c.cal c.W mb ρ M with
  | ex cn ns vs ρ1 M1 =>
    intro ok
    dsimp only at ok
    split at ok
    · rename_i hx
      obtain ⟨xd, hx⟩ := Option.isSome_iff_exists.mp hx
      intro β' H' σ' C dx xs st rm' rs' hC hd rx
      exact wTry_of cx.K hx rm' rs' hC hd rx hh (OutK.from ok st)
    · exact ok.elim
  | _ => exact fun ok => ok

/-! ### fields of exceptions -/
theorem exn_lookup {ns : List Str} {ys : List V} {vs : List MV} {G : Wd} {β : List Addr} {H : Hp} {f : Str} {w : MV} (r : RVs G β H vs ys) (h : fldV ns vs f = some w) (hl : ns.length = vs.length) : ∃ x, (ns.zip ys).lookup f = some x ∧ RV G β H w x := fidx_zip r h hl
theorem tE_xfld {c : Cf} {T : Tb} {N : List Str} {sc : Scope} {wx : WX} {X : Cx} (cx : Ctx0 c T N sc X) {o : Expr} {f : Str} {pos : Pos} {mo : ME} (ho : PE X o (tE c wx mo)) (hb : bareCall o = false) : PE X (.Attribute o f pos) (tE c wx (.xfld mo f)) := by
  refine PE.imp (pe_xfV ho (attrB hb)) fun σ H Q => ?_
  rintro ⟨β, M, ρ, rm, rs, ok⟩
  rw [evalE] at ok
  refine ⟨β, M, ρ, rm, rs, ok.bind.imp fun β1 M1 v H1 st1 rm1 k x rx => ?_⟩
  cases v with
  | exn cn ns vs =>
    obtain ⟨a, C, dx, ys, fs, rfl, n1, n2, hC, hv, hd, hlk, hl, rys⟩ := rx
    dsimp only at k
    split at k
    case h_2 => exact k.elim
    rename_i d hx
    split at k
    case isFalse => exact k.elim
    rename_i hf
    obtain ⟨z, hz, gv⟩ := gv_of k
    obtain ⟨y, hy, ry⟩ := exn_lookup rys hz hl
    obtain ⟨C', xi⟩ := cx.stat.exc cn d hx
    have hnm : d.nm = cn := by simpa using List.find?_some hx
    have hC' := xi.at_
    rw [hnm, hC] at hC'
    cases hC'
    exact ⟨a, C, dx, fs, y, rfl, hv, cx.K ▸ xi.xf, cx.K ▸ xi.fld f (by simpa using hf), hd, (hlk f).trans hy, gv.now rm1 ry⟩
  | _ => exact k.elim
theorem tE_cmpp {c : Cf} {T : Tb} {N : List Str} {sc : Scope} {wx : WX} {X : Cx} (cx : Ctx0 c T N sc X) {a b : Expr} {op : CmpOp} {ma mb : ME} {pos : Pos} (ha : PE X a (tE c wx ma)) (hb : PE X b (tE c wx mb)) (hs : isSet b = false) : PE X (.Compare a [op] [b] pos) (tE c wx (.cmpp op ma mb)) := by
  refine PE.imp (pe_cmpR (op_cmp cx.K cx.units op) ha hb (noMark hs)) fun σ H Q => ?_
  rintro ⟨β, M, ρ, rm, rs, ok⟩
  rw [evalE] at ok
  refine ⟨β, M, ρ, rm, rs, ok.bind.imp fun β1 M1 v H1 st1 rm1 k x rx => ?_⟩
  refine ⟨β1, M1, ρ, rm1, rs.step st1, k.bind.imp fun β2 M2 u H2 st2 rm2 k2 y ry => ?_⟩
  obtain ⟨z, hz, gv⟩ := gv_of k2
  exact ⟨β2, M2, v, u, z, rm2, RV.step st2 _ _ rx, ry, hz, gv⟩
end Mi
/-! Mini, part Xd: dict displays. -/
set_option autoImplicit false
set_option linter.all false
namespace Mi
open PySem L2

theorem Ctx.hide {c : Cf} {T : Tb} {N : List Str} {sc : Scope} {wx : WX} {X : Cx} (cx : Ctx c T N sc wx X) (D : Addr) : Ctx (c.hide D) T N sc wx X where
  K := cx.K
  mg := cx.mg
  names := cx.names
  scope := cx.scope
  nd := cx.nd
  calm := cx.calm
  room := cx.room
  quiet := cx.quiet
  stat := cx.stat.hide
  fns := fun φ => cx.fns φ
  pa := cx.pa
  po := cx.po
  xin := cx.xin
/-- the readings of a display's pairs -/
def trsOf (c : Cf) (wx : WX) : List MP → List (TE × TE)
  | .kv k v :: r => (fun σ H Q => ∃ D, tE (c.hide D) wx k σ H Q, fun σ H Q => ∃ D, tE (c.hide D) wx v σ H Q) :: trsOf c wx r
  | .star _ :: r => trsOf c wx r
  | [] => []
theorem zipRel {G : Wd} {β : List Addr} {H : Hp} : ∀ {ks vs : List MV} {xs ys : List V}, ks.length = vs.length → RVs G β H ks xs → RVs G β H vs ys → RVs G β H ks ((xs.zip ys).map (·.1)) ∧ RVs G β H vs ((xs.zip ys).map (·.2)) := by
  intro ks vs xs ys hl r1 r2
  have h1 := r1.len
  have h2 := r2.len
  rw [List.map_fst_zip (by omega), List.map_snd_zip (by omega)]
  exact ⟨r1, r2⟩
theorem evalPs_len {P : MProg} {cal : Cal} : ∀ {ps : List MP} {ρ : Env} {M M' : Mem} {p : List MV × List MV}, evalPs P cal ps ρ M = .ok p M' → p.1.length = p.2.length ∧ p.1.length = ps.length
  | [], ρ, M, M', p, h => by rw [evalPs] at h; cases h; exact ⟨rfl, rfl⟩
  | .star _ :: r, ρ, M, M', p, h => by rw [evalPs] at h; cases h
  | .kv k v :: r, ρ, M, M', p, h => by
    rw [evalPs] at h
    obtain ⟨x, M1, h1, h⟩ := bind_ok h
    obtain ⟨y, M2, h2, h⟩ := bind_ok h
    obtain ⟨q, M3, h3, h⟩ := bind_ok h
    cases h
    obtain ⟨e1, e2⟩ := evalPs_len h3
    exact ⟨by simp [e1], by simp [e2]⟩
theorem tPairs_of {c : Cf} {wx : WX} {D : Addr} : ∀ {ps : List MP} {ρ : Env} {M Mf : Mem} {p : List MV × List MV} {β : List Addr} {H : Hp} {σ : St} {K : List (V × V) → Hp → Prop}, evalPs c.P c.cal ps ρ M = .ok p Mf → RelM (c.hide D).G β M H → RelS (c.hide D).G β H ρ σ →
    (∀ β' H' xs ys, Step (c.hide D).G β H β' H' → RelM (c.hide D).G β' Mf H' → RVs (c.hide D).G β' H' p.1 xs → RVs (c.hide D).G β' H' p.2 ys → K (xs.zip ys) H') → tPairs (trsOf c wx ps) σ H K
  | [], ρ, M, Mf, p, β, H, σ, K, h, rm, rs, k => by
    rw [evalPs] at h; cases h
    exact k β H [] [] Step.rfl' rm rfl rfl
  | .star _ :: r, ρ, M, Mf, p, β, H, σ, K, h, rm, rs, k => by rw [evalPs] at h; cases h
  | .kv ek ev :: r, ρ, M, Mf, p, β, H, σ, K, h, rm, rs, k => by
    rw [evalPs] at h
    obtain ⟨x, M1, h1, h⟩ := bind_ok h
    obtain ⟨y, M2, h2, h⟩ := bind_ok h
    obtain ⟨q, M3, h3, h⟩ := bind_ok h
    cases h
    refine ⟨D, β, M, ρ, rm, rs, res_ok h1 fun β1 H1 st1 rm1 u ru => ?_⟩
    refine ⟨D, β1, M1, ρ, rm1, rs.step st1, res_ok h2 fun β2 H2 st2 rm2 w rw' => ?_⟩
    refine tPairs_of h3 rm2 (rs.step (st1.trans st2)) fun β3 H3 xs ys st3 rm3 rx ry => ?_
    exact k β3 H3 (u :: xs) (w :: ys) (st1.trans (st2.trans st3)) rm3 ⟨u, xs, rfl, RV.step (st2.trans st3) _ _ ru, rx⟩ ⟨w, ys, rfl, RV.step st3 _ _ rw', ry⟩
theorem tF_disp {c : Cf} {wx : WX} {X : Cx} {pos : Pos} {keys : List (Option Expr)} {values : List Expr} {ps : List MP} (h : PPs X pos keys values (trsOf c wx ps)) (hall : keys.all (·.isSome) = true) (hl : keys.length = values.length) (h0 : keys ≠ []) (h15 : keys.length ≤ 15) : PE X (.Dict keys values pos) (tF c wx (.dctE ps)) := by
  refine PE.imp (pe_disp h hall hl h0 h15) fun σ H Q => ?_
  rintro ⟨β, M, ρ, rm, rs, ok⟩
  rw [evalE] at ok
  intro D hD
  cases hev : evalPs c.P c.cal ps ρ M with
  | err => rw [hev] at ok; exact ok.elim
  | ex _ _ _ _ => rw [hev] at ok; exact ok.elim
  | ok p Mf =>
    rw [hev] at ok
    simp only [noEx, Res.bind] at ok
    split at ok
    case isFalse => exact ok.elim
    rename_i hle
    obtain ⟨z, hz, k⟩ := ok.of
    obtain ⟨q, hq, rfl⟩ := Option.map_eq_some_iff.mp hz
    have mem : D ∈ (c.hide D).G.hid := List.mem_cons_self ..
    have nD : D ∉ c.G.hid := (rm.fresh hD).2
    refine tPairs_of hev (rm.hide hD _) (rs.map (fun r => RV.alike mem (Alike.upd _) (RV.hide hD r))) fun β' H' xs ys st rm' rx ry => ?_
    obtain ⟨l1, l2⟩ := evalPs_len hev
    obtain ⟨r1, r2⟩ := zipRel l1 rx ry
    obtain ⟨kvs, e1, e2, r3⟩ := kvs_of (dputs_isK hq) r1 r2
    have hD' : H' D = some (.dK []) := st.keepH D _ mem upd_same
    have hkl : kvs.length = p.1.length := by rw [e2]; simp
    refine ⟨hD', kvs, e1, by omega, ?_⟩
    rw [e2] at hq
    obtain ⟨m1, m2⟩ := merge_rel r3 (acc := []) (bs := []) rfl hq
    have st' : Step c.G β H β' H' := (Step.fresh (G := c.G) (β := β) (.dK []) hD).under hD st
    have := k β' (del H' D) (st'.alike hD Alike.del) (rm'.unhide nD) D (.dK (mergeK [] kvs)) del_same ⟨_, rfl, m1, RVs.unhide (RVs.alike mem Alike.del m2)⟩
    have e : upd (del H' D) D (.dK (mergeK [] kvs)) = upd H' D (.dK (mergeK [] kvs)) := by
      funext b
      by_cases hb : b = D
      · subst hb; rw [upd_same, upd_same]
      · rw [upd_ne hb, upd_ne hb, del_ne hb]
    rw [e] at this
    exact this
end Mi
/-! Mini, part Xe: exceptions as values: isinstance, made with keywords; list(range(..)). -/
set_option autoImplicit false
set_option linter.all false
namespace Mi
open PySem L2

theorem cr_never {X : Cx} {f : Value} : CallR X f (fun _ _ _ => False) := fun pins s σ H xs us Q I r h => h.elim
/-- isinstance of an exception, of a class that is known as a value -/
theorem tE_xisC {c : Cf} {T : Tb} {N : List Str} {sc : Scope} {wx : WX} {X : Cx} (cx : Ctx0 c T N sc X) {e : Expr} {p p2 pos : Pos} {m m' : ME} {cn : Str} {g : Str → Bool} {v : V} {cv : Value} (h2 : PE X (.Name cn p2) (tC v)) (hv : ∀ u, RelV v u → u = cv) (hk : ∀ n d C, excOf c.P n = some d → ExcI c.G d C → c.G.cls n = some C → W.kitOne c.G.K (.ref C) cv = some (g n)) (hf0 : (Str.ofString "isinstance") ∈ T.frees) (hg0 : Gl X (Str.ofString "isinstance")) (hs : isStar e = false) (he : PE X e (tE c wx m))
    (hm : ∀ ρ M, evalE c.P c.cal m' ρ M = (evalE c.P c.cal m ρ M).bind fun x M1 => (match x with
      | .exn n _ _ => if (excOf c.P n).isSome then .ok (.bl (g n)) M1 else .err
      | _ => .err)) :
    PE X (.Call (.Name (Str.ofString "isinstance") p) [e, .Name cn p2] [] pos) (tE c wx m') := by
  have go : ∀ {r : List V → Hp → VK → Prop}, CallR X (.builtin "isinstance") r → PE X (.Call (.Name (Str.ofString "isinstance") p) [e, .Name cn p2] [] pos) (tCB r (fun σ H Q => tE c wx m σ H fun x H1 => tC v σ H1 fun y H2 => Q [x, y] H2)) := fun hr => pe_callB hr hg0 (cx.mg ▸ cx.stat.free _ hf0) (by decide +kernel) (pa_cons he (pa_cons h2 pa_nil) (notStar hs)) (by decide +kernel) (by decide +kernel) (notStar hs) rfl
  refine PE.dyn fun σ H Q => ?_
  rintro ⟨β, M, ρ, rm, rs, ok⟩
  rw [hm] at ok
  cases ev : evalE c.P c.cal m ρ M with
  | err => rw [ev] at ok; exact ok.elim
  | ex cn' ns vs M' =>
    rw [ev] at ok
    exact ⟨_, go cr_never, β, M, ρ, rm, rs, by rw [ev]; exact ok⟩
  | ok x M1 =>
    rw [ev] at ok
    cases x with
    | exn n ns vs =>
      simp only [Res.bind] at ok
      split at ok
      · rename_i hx
        obtain ⟨d, hd⟩ := Option.isSome_iff_exists.mp hx
        obtain ⟨C, xi⟩ := cx.stat.exc n d hd
        have hnm : d.nm = n := by simpa using List.find?_some hd
        refine ⟨_, go (call_isV (D := C) (cx.K ▸ xi.isx)), β, M, ρ, rm, rs, ?_⟩
        rw [ev]
        intro β1 H1 st1 rm1 x' rx
        obtain ⟨a, C', dx, ys, fs, rfl, n1, n2, hC, hex, hxd, hlk, hl, rys⟩ := rx
        have hC' := xi.at_
        rw [hnm, hC] at hC'
        cases hC'
        exact ⟨a, dx, fs, v, cv, g n, rfl, hex, hxd, hv, cx.K ▸ hk n d C hd xi hC, ok β1 H1 st1 rm1 _ rfl⟩
      · exact ok.elim
    | _ => exact ok.elim
theorem tE_xis {c : Cf} {T : Tb} {N : List Str} {sc : Scope} {wx : WX} {X : Cx} (cx : Ctx0 c T N sc X) {e : Expr} {p p2 pos : Pos} {m : ME} {cn : Str} (hc : cn ∈ T.hnd) (hn : okN cn = true) (hg : Gl X cn) (hf0 : (Str.ofString "isinstance") ∈ T.frees) (hg0 : Gl X (Str.ofString "isinstance")) (hs : isStar e = false) (he : PE X e (tE c wx m)) :
    PE X (.Call (.Name (Str.ofString "isinstance") p) [e, .Name cn p2] [] pos) (tE c wx (.xis m cn)) := by
  obtain ⟨D, hD, hk⟩ := cx.stat.exm cn hc
  exact tE_xisC cx (g := fun n => catches c.P cn n) (v := .ref D) (cv := .ref D) (pe_glob hg (cx.mg ▸ hD) rfl (okN_d hn)) (fun u r => r) (fun n d C h3 _ h4 => (hk n d C h3 h4).2) hf0 hg0 hs he fun ρ M => by rw [evalE] <;> rfl
theorem tE_xisV {c : Cf} {T : Tb} {N : List Str} {sc : Scope} {wx : WX} {X : Cx} (cx : Ctx0 c T N sc X) {e : Expr} {p p2 pos : Pos} {m : ME} (hf : (Str.ofString "ValueError") ∈ T.frees) (hg : Gl X (Str.ofString "ValueError")) (hf0 : (Str.ofString "isinstance") ∈ T.frees) (hg0 : Gl X (Str.ofString "isinstance")) (hs : isStar e = false) (he : PE X e (tE c wx m)) :
    PE X (.Call (.Name (Str.ofString "isinstance") p) [e, .Name (Str.ofString "ValueError") p2] [] pos) (tE c wx (.xisV m)) :=
  tE_xisC cx (g := fun _ => true) (v := .ty "ValueError") (cv := .type "ValueError") (pe_bltn hg (cx.mg ▸ cx.stat.free _ hf) (by decide +kernel) rfl (by decide +kernel) (by decide +kernel)) (fun u r => r) (fun n d C _ xi _ => xi.isv) hf0 hg0 hs he fun ρ M => by rw [evalE] <;> rfl
/-- C(e, k = v) as a value -/
theorem tE_newX {c : Cf} {T : Tb} {N : List Str} {sc : Scope} {wx : WX} {X : Cx} (cx : Ctx c T N sc wx X) {cn : Str} {es : List Expr} {kws : List Keyword} {p pos : Pos} {ms mk : List ME} {ks : List Str} {how : List MB} (hx : (excOf c.P cn).isSome = true) (hq : ⟨cn, es.length, ks, how⟩ ∈ T.kwx) (hg : Gl X cn) (hn : okN cn = true) (hss : es.all (fun e => !isStar e) = true) (hk : kwNames kws = some ks) (hle : es.length ≤ 900)
    (l1 : es.length = ms.length) (l2 : ks.length = mk.length) (ha : PA X es (tA c wx ms)) (hkk : PK X kws (tA c wx mk)) : PE X (.Call (.Name cn p) es kws pos) (tE c wx (.newX cn (ms ++ mk) how)) := by
  obtain ⟨d, hd⟩ := Option.isSome_iff_exists.mp hx
  obtain ⟨C, xi⟩ := cx.stat.exc cn d hd
  have hnm : d.nm = cn := by simpa using List.find?_some hd
  have hC : c.G.cls cn = some C := hnm ▸ xi.at_
  obtain ⟨fI, fd, ps, iC, tI, F, _, hkw⟩ := cx.xin cn d C hd hC
  obtain ⟨g, gV, kb, hgV⟩ := hkw _ hq rfl
  rw [← cx.K, ← cx.mg] at F
  refine ⟨fun pins s σ H Q I h => wpAny_Call_Name_kw (ld_glob I hg (cx.mg ▸ hnm ▸ xi.mg) ?_ (okN_d hn))⟩
  obtain ⟨β, M, ρ, rm, rs, ok⟩ := h
  rw [evalE] at ok
  refine callWith_any (R := RK c wx σ ms.length mk.length how (fun ws M1 => mkExn c.P cn ws M1) Q) I (cx.K ▸ xi.oex.kC) hss hk ha (tA_nil0 l1) hkk (rk_of rm rs ok) fun us ws vs zs H2 s2 I2 r1 r2 hR => ?_
  obtain ⟨e1, e2, β1, M1, mv, rm1, rmv, mw, hmw, k⟩ := hR
  obtain ⟨ys, hwv, _⟩ := hgV (.ref 0) vs zs (e1.trans l1.symm) (e2.trans l2.symm)
  have rys := bind_rel rmv hmw hwv
  unfold mkExn at k
  rw [hd] at k
  dsimp only at k
  split at k
  case isFalse => exact k.elim
  rename_i hl
  have hyl : ys.length = d.ns.length := by rw [rys.len, hl]
  refine wpAny_mono (run_excN (CX' := CX X.prog X.w) (n := es.length) (ys := ys) (Q := fun cls dd H' => ∃ C dx, cls = .ref C ∧ dd = some dx ∧ ∀ a, H' a = none → Q (.ref a) (upd H' a (exv a C dx))) (cx.K ▸ xi.oex) (cx.K ▸ iC) (cx.K ▸ tI) F (cx.room.mono (by unfold lev; omega)) (cx.K ▸ kb) passF I2 r1 r2 (e1.trans l1.symm) (e2.trans l2.symm) hle (fun x => ?_) hyl fun dx fs hdx hlk => ?_) (fun u s' z => ep_of_mk (fun _ _ _ z => z) z) fun _ _ z => z
  · obtain ⟨ys', hwv', hgx⟩ := hgV x vs zs (e1.trans l1.symm) (e2.trans l2.symm)
    rw [hwv] at hwv'; cases hwv'
    exact hgx
  · refine ⟨C, dx, rfl, rfl, fun a na => ?_⟩
    have st1 := Step.fresh (G := c.G) (β := β1) (.xd fs) hdx
    have rm2 := rm1.new (.xd fs) hdx
    have st2 := Step.fresh (G := c.G) (β := β1) (exv a C dx) na
    have hne : dx ≠ a := fun z => by rw [z] at na; rw [← z, upd_same] at na; cases na
    refine k β1 _ (st1.trans st2) (rm2.new _ na) (.ref a) ⟨a, C, dx, ys, fs, rfl, rm2.fresh na, rm1.fresh hdx, hC, upd_same, by rw [upd_ne hne, upd_same], hlk, hl, RVs.step (st1.trans st2) _ _ rys⟩
/-- list(range(a, b)) -/
theorem rgV_rel {G : Wd} {β : List Addr} {H : Hp} {a b : Int} : RVs G β H (rngV a (b - a).toNat) (rgV a b) := by
  unfold rngV rgV
  generalize List.range (b - a).toNat = l
  induction l with
  | nil => exact rfl
  | cons x l ih => exact ⟨_, _, rfl, rfl, ih⟩
theorem tF_lrng {c : Cf} {T : Tb} {N : List Str} {sc : Scope} {wx : WX} {X : Cx} (cx : Ctx c T N sc wx X) {a b : Expr} {p p2 pos pos2 : Pos} {ma mb : ME} (hf : (Str.ofString "list") ∈ T.frees) (hg : Gl X (Str.ofString "list")) (hf2 : (Str.ofString "range") ∈ T.frees) (hg2 : Gl X (Str.ofString "range")) (hsa : isStar a = false) (hsb : isStar b = false) (ha : PE X a (tE c wx ma)) (hb : PE X b (tE c wx mb)) :
    PE X (.Call (.Name (Str.ofString "list") p) [.Call (.Name (Str.ofString "range") p2) [a, b] [] pos2] [] pos) (tF c wx (.lrng ma mb)) := by
  refine PE.imp (pe_listRg cx.calm hg (cx.mg ▸ cx.stat.free _ hf) (prg_2 hg2 (cx.mg ▸ cx.stat.free _ hf2) ha hb (notStar hsa) (notStar hsb) (by rw [notStar hsb]; rfl))) fun σ H Q => ?_
  rintro ⟨β, M, ρ, rm, rs, ok⟩
  rw [evalE] at ok
  refine ⟨β, M, ρ, rm, rs, ok.bind.imp fun β1 M1 v H1 st1 rm1 k x rx => ?_⟩
  refine ⟨β1, M1, ρ, rm1, rs.step st1, k.bind.imp fun β2 M2 u H2 st2 rm2 k2 y ry => ?_⟩
  cases v with
  | int i =>
    cases u with
    | int j =>
      cases (show x = _ from rx); cases (show y = _ from ry)
      dsimp only at k2
      split at k2
      · rename_i hr
        simp only [inR, Bool.and_eq_true, decide_eq_true_eq] at hr
        refine ⟨i, j, rfl, rfl, ⟨hr.1.1.1, hr.1.1.2, hr.1.2.1, hr.1.2.2, hr.2⟩, fun q hq => ?_⟩
        exact k2 β2 H2 Step.rfl' rm2 q _ hq ⟨_, rfl, rgV_rel⟩
      · exact k2.elim
    | _ => exact k2.elim
  | _ =>
    cases u <;> exact k2.elim
end Mi
/-! Mini, part Y: the checker (Mini's text against the program's). -/
set_option autoImplicit false
set_option linter.all false
namespace Mi
open PySem L2

structure Kc where
  P : MProg
  T : Tb
  N : List Str
def visB (sc : Scope) (x : Str) : Bool := match sc.names.lookup x with
  | some .local => true
  | some .cell => true
  | some .free => true
  | _ => false
def locB (sc : Scope) (x : Str) : Bool := match sc.names.lookup x with
  | some .local => true
  | some .cell => true
  | _ => false
def lclB (sc : Scope) (x : Str) : Bool := decide (sc.names.lookup x = some .local)
def glB (sc : Scope) (x : Str) : Bool := decide (sc.names.lookup x = some .globalImplicit)
def litB : MV → Const → Bool
  | .non, .none => true
  | .bl a, .bool b => a == b
  | .int a, .int b => decide (a = b)
  | .str a, .str b => decide (a = b)
  | _, _ => false
def okV (x : Str) : Bool := !(x == Str.ofString "__debug__") && !(x == Str.ofString "__classdict__")
def uopB : UnaryOp → UnaryOp → Bool
  | a, b => decide (a = b)
def noStars (es : List Expr) : Bool := es.all fun e => !isStar e
/-- the methods of built-in things: their names, how many values -/
def bmTab : BM → Option (Str × Nat)
  | .append => some ("append", 1)
  | .extend => some ("extend", 1)
  | .pop => some ("pop", 0)
  | .popAt => some ("pop", 1)
  | .insert => some ("insert", 2)
  | .clear => some ("clear", 0)
  | .dclear => some ("clear", 0)
  | .get => some ("get", 1)
  | .join => some ("join", 1)
  | .split => some ("split", 1)
  | _ => none
def biVal : List Str := ["len", "all", "any", "sum", "repr"]
def biNew : List Str := ["sorted", "list", "dict"]
def isComp : Expr → Bool
  | .ListComp .. => true
  | .SetComp .. => true
  | .DictComp .. => true
  | _ => false
def pairS (targets : List Expr) (value : Expr) : Option (List Expr × List Expr) := match targets, value with
    | [.Tuple ts _ _], .Tuple vs _ _ | [.List ts _], .Tuple vs _ _ => some (ts, vs)
    | _, _ => none
def swC1 (ts vs : List Expr) (bk : ScopeKind) : Bool := !(ts.length == 2 || ts.length == 3) || vs.length != ts.length || bk != .function
def swC2 (vs : List Expr) : Bool := vs.any fun | .Starred .. => true | _ => false
def swNames (ts : List Expr) (sc : Scope) : List Str := ts.filterMap fun
  | .Name id pos => if sc.names.lookup id == some .local && pos.line == (ts.head?.map (·.pos.line)).getD 0 then some id else none
  | _ => none
def swC3 (ts : List Expr) (names : List Str) : Bool := names.length != ts.length || names.eraseDups.length != names.length
/-- what swappedStores answers; none: it is not known -/
def swS (targets : List Expr) (value : Expr) (sc : Scope) : Option (Option (List Str)) :=
  match pairS targets value with
  | none => some none
  | some (ts, vs) =>
    if swC1 ts vs (if sc.kind.isAnnotationScope then .function else sc.kind) then some none
    else if swC2 vs then some none
    else if swC3 ts (swNames ts sc) then some none
    else if vs.all (foldedForSure 8) then some none
    else if vs.all (constantsAlone 8) then none
    else some (some (swNames ts sc))
theorem swS_ok {targets : List Expr} {value : Expr} {env : PySem.Env} {r : Option (List Str)} (h : swS targets value env.scope = some r) : swappedStores targets value env = pure r := by
  unfold swappedStores
  split
  · rename_i ts vs hm
    have hm2 : pairS targets value = some (ts, vs) := hm
    unfold swS at h
    rw [hm2] at h
    dsimp only at h
    by_cases h1 : swC1 ts vs (if env.scope.kind.isAnnotationScope then .function else env.scope.kind) = true
    · rw [if_pos h1] at h
      cases h
      exact if_pos h1
    · rw [if_neg h1] at h
      refine (if_neg h1).trans ?_
      by_cases h2 : swC2 vs = true
      · rw [if_pos h2] at h
        cases h
        exact if_pos h2
      · rw [if_neg h2] at h
        refine (if_neg h2).trans ?_
        by_cases h3 : swC3 ts (swNames ts env.scope) = true
        · rw [if_pos h3] at h
          cases h
          exact if_pos h3
        · rw [if_neg h3] at h
          refine (if_neg h3).trans ?_
          by_cases h4 : vs.all (foldedForSure 8) = true
          · rw [if_pos h4] at h
            cases h
            exact if_pos h4
          · rw [if_neg h4] at h
            refine (if_neg h4).trans ?_
            by_cases h5 : vs.all (constantsAlone 8) = true
            · rw [if_pos h5] at h
              cases h
            · rw [if_neg h5] at h
              cases h
              exact if_neg h5
  · rename_i x hm
    have hm2 : pairS targets value = none := by
      cases hp : pairS targets value with
      | none => rfl
      | some q => exact absurd (show _ = _ from hp) (hm q.1 q.2)
    unfold swS at h
    rw [hm2] at h
    cases h
    rfl
/-- swapsWith of a comprehension at a name -/
def swcB (value : Expr) (y : Str) (py : Pos) (sc : Scope) : Bool := match value with
  | .ListComp _ _ s _ => ((if sc.kind.isAnnotationScope then .function else sc.kind) == .function && sc.names.lookup y == some .local && py.line == value.pos.line && !(s.names.any fun (n, k) => n == y && (k == .local || k == .cell)))
  | _ => false
theorem swc_ok {elt : Expr} {gs : List Comprehension} {s : Scope} {pos py : Pos} {y : Str} {n : Nat} {env : PySem.Env} {b : Bool} (h : swcB (.ListComp elt gs s pos) y py env.scope = b) : swapsWith (.ListComp elt gs s pos) (some (.Name y py)) n env = pure b := by
  subst h; rfl
theorem sw_name {e : Expr} {y : Str} {py : Pos} {n : Nat} {env : PySem.Env} (h : isComp e = false ∨ (∃ elt gs s pos, e = .ListComp elt gs s pos) ∧ swcB e y py env.scope = false) : swapsWith e (some (.Name y py)) n env = pure false := by
  rcases h with h | ⟨⟨elt, gs, s, pos, rfl⟩, h⟩
  · cases e <;> first | rfl | cases h
  · exact swc_ok h
theorem sw_none {e : Expr} {n : Nat} {env : PySem.Env} (h : isComp e = false) : swapsWith e none n env = pure false := by
  cases e <;> first | rfl | cases h
theorem sw_any {e t : Expr} {n : Nat} {env : PySem.Env} (h : isComp e = false) : swapsWith e (some t) n env = pure false := by
  cases e <;> first | rfl | cases h
def isSlice : Expr → Bool
  | .Slice .. => true
  | _ => false
theorem asg_sub {o i : Expr} {pos : Pos} {env : PySem.Env} (h : isSlice i = false) : ∀ v : Value, assign (o.Subscript i pos) env v = (do
      let ov ← holding [v] (eval o env)
      let iv ← holding [v, ov] (eval i env)
      standAt pos
      holding [v, ov, iv] (setItem ov iv v)
      release [v, ov, iv] []) := by
  intro v
  cases i <;> first | rfl | cases h
def isName : Expr → Bool
  | .Name .. => true
  | _ => false
theorem asgEach_names {env : PySem.Env} : ∀ {es : List Expr}, es.all isName = true → (assignEach es env).length = es.length ∧ (assignEach es env).findIdx? (fun x => x.1) = none
  | [], _ => ⟨rfl, rfl⟩
  | e :: es, h => by
    simp only [List.all_cons, Bool.and_eq_true] at h
    obtain ⟨h1, h2⟩ := asgEach_names (env := env) h.2
    cases e with
    | Name x p =>
      have e1 : assignEach (.Name x p :: es) env = (false, assign (.Name x p) env) :: assignEach es env := rfl
      rw [e1]
      refine ⟨by simp [h1], ?_⟩
      rw [List.findIdx?_cons]
      simp [h2]
    | _ => cases h.1
theorem asgEach_one {t : Expr} {env : PySem.Env} (h : isStar t = false) : (assignEach [t] env).map (·.2) = [assign t env] := by
  cases t <;> first | rfl | cases h

mutual
def chkE (k : Kc) : Nat → Scope → ME → Expr → Bool
  | 0, _, _, _ => false
  | n + 1, sc, m, e => match m with
    | .bad => true
    | .lit v => (match e with
      | .Constant c _ _ => litB v c
      | _ => false)
    | .glo x v => (match e with
      | .Name y _ => decide (x = y) && k.T.globs.contains (x, v) && glB sc x && okN x
      | _ => false)
    | .var i => (match e with
      | .Name x _ => decide (k.N[i]? = some x) && visB sc x && okV x
      | _ => false)
    | .bin op a b => (match e with
      | .BinOp a' op' b' _ => decide (op = op') && chkE k n sc a a' && chkE k n sc b b'
      | _ => false)
    | .neg a => (match e with
      | .UnaryOp .USub a' _ => chkE k n sc a a'
      | _ => false)
    | .notE a => (match e with
      | .UnaryOp .Not a' _ => chkE k n sc a a'
      | _ => false)
    | .andE a b => (match e with
      | .BoolOp .And (a' :: b' :: []) _ => chkE k n sc a a' && chkE k n sc b b'
      | .BoolOp .And (a' :: b' :: c' :: r) p => chkE k n sc a a' && chkE k n sc b (.BoolOp .And (b' :: c' :: r) p)
      | _ => false)
    | .orE a b => (match e with
      | .BoolOp .Or (a' :: b' :: []) _ => chkE k n sc a a' && chkE k n sc b b'
      | .BoolOp .Or (a' :: b' :: c' :: r) p => chkE k n sc a a' && chkE k n sc b (.BoolOp .Or (b' :: c' :: r) p)
      | _ => false)
    | .cmp op a b => (match e with
      | .Compare a' [op'] [b'] _ => decide (op = op') && chkE k n sc a a' && chkE k n sc b b' && !isSet b'
      | _ => false)
    | .cmp2 op1 op2 a b d => (match e with
      | .Compare a' [op1', op2'] [b', d'] _ => decide (op1 = op1') && decide (op2 = op2') && chkE k n sc a a' && chkE k n sc b b' && chkE k n sc d d' && !isSet b' && !isSet d'
      | _ => false)
    | .ifE t a b => (match e with
      | .IfExp t' a' b' _ => chkT k n sc t t' && chkE k n sc a a' && chkE k n sc b b'
      | _ => false)
    | .tupE ms => (match e with
      | .Tuple es _ _ => chkAs k n sc ms es
      | _ => false)
    | .lstE ms => chkF k n sc (.lstE ms) e
    | .dctE ps => chkF k n sc (.dctE ps) e
    | .lcomp a tg it cs => chkF k n sc (.lcomp a tg it cs) e
    | .box a => chkF k n sc a e
    | .idx a b => (match e with
      | .Subscript a' b' _ => chkE k n sc a a' && chkE k n sc b b' && okIx b'
      | _ => false)
    | .fld a f => (match e with
      | .Attribute a' f' _ => decide (f = f') && chkE k n sc a a' && !bareCall a'
      | _ => false)
    | .call f ms => (match e with
      | .Call (.Name f' _) (e' :: es) [] _ => decide (f = f') && k.T.plain.contains f && glB sc f && okN f && noStars (e' :: es) && chkEs k n sc ms (e' :: es)
      | _ => false)
    | .callK f ms how => (match e with
      | .Call (.Name f' _) es kws _ => (match kwNames kws with
        | some ks => decide (f = f') && k.T.kws.contains ⟨f, es.length, ks, how⟩ && k.T.plain.contains f && glB sc f && okN f && noStars es && decide (ms.length = es.length + kws.length) && chkEs k n sc (ms.take es.length) es && chkEs k n sc (ms.drop es.length) (kws.map (·.value))
        | none => false)
      | _ => false)
    | .newK f ms how => (match e with
      | .Call (.Name f' _) es kws _ => (match kwNames kws, clsOf k.P f with
        | some ks, some d => (match d.meths.lookup ("__init__" : Str) with
          | some g => decide (f = f') && k.T.kwm.contains ⟨g, es.length, ks, how⟩ && glB sc f && okN f && noStars es && decide (ms.length = es.length + kws.length) && chkEs k n sc (ms.take es.length) es && chkEs k n sc (ms.drop es.length) (kws.map (·.value))
          | none => false)
        | _, _ => false)
      | _ => false)
    | .methK o mn ms how => (match e with
      | .Call (.Attribute o' m' apos) es kws pos => (match kwNames kws with
        | some ks => decide (mn = m') && chkE k n sc o o' && !bareCall o' && (k.P.cls.all fun d => match d.meths.lookup mn with
          | some g => k.T.kwm.contains ⟨g, es.length, ks, how⟩
          | none => true) && noStars es && decide (es.length + kws.length < 29) && (apos.endLine == pos.line) && decide (ms.length = es.length + kws.length) && chkEs k n sc (ms.take es.length) es && chkEs k n sc (ms.drop es.length) (kws.map (·.value))
        | none => false)
      | _ => false)
    | .meth o mn ms => (match e with
      | .Call (.Attribute o' m' apos) (e' :: es) [] pos => decide (mn = m') && chkE k n sc o o' && !bareCall o' && noStars (e' :: es) && decide ((e' :: es).length < 30) && (apos.endLine == pos.line) && chkEs k n sc ms (e' :: es)
      | _ => false)
    | .bm o b ms => (match e with
      | .Call (.Attribute o' m' apos) es [] pos => (match bmTab b with
        | some (nm, j) => decide (nm = m') && chkE k n sc o o' && !bareCall o' && noStars es && decide (es.length = j) && decide (ms.length = j) && (apos.endLine == pos.line) && chkEs k n sc ms es
        | none => false)
      | _ => false)
    | .new f ms => (match e with
      | .Call (.Name f' _) (e' :: es) [] _ => (match clsOf k.P f with
        | some d => (d.meths.lookup ("__init__" : Str)).isSome && decide (f = f') && glB sc f && okN f && noStars (e' :: es) && chkEs k n sc ms (e' :: es)
        | none => false)
      | _ => false)
    | .bi b ms => if biVal.contains b then (match e with
      | .Call (.Name b' _) (e' :: es) [] _ => decide (b = b') && k.T.frees.contains b && glB sc b && noStars (e' :: es) && chkEs k n sc ms (e' :: es)
      | _ => false) else chkF k n sc (.bi b ms) e
    | .isinst a t => (match e with
      | .Call (.Name i' _) [a', .Name t' _] [] _ => decide (i' = Str.ofString "isinstance") && ["bool", "int", "str", "tuple", "list", "dict"].contains t && decide (t' = Str.ofString t) && k.T.frees.contains t' && glB sc t' && k.T.frees.contains i' && glB sc i' && !isStar a' && chkE k n sc a a'
      | _ => false)
    | .lvals a => chkF k n sc (.lvals a) e
    | .cmpp op a b => (match e with
      | .Compare a' [op'] [b'] _ => decide (op = op') && chkE k n sc a a' && chkE k n sc b b' && !isSet b'
      | _ => false)
    | .xfld a f => (match e with
      | .Attribute a' f' _ => decide (f = f') && chkE k n sc a a' && !bareCall a'
      | _ => false)
    | .xis a t => (match e with
      | .Call (.Name i' _) [a', .Name t' _] [] _ => decide (i' = Str.ofString "isinstance") && decide (t' = t) && k.T.hnd.contains t && glB sc t && okN t && k.T.frees.contains i' && glB sc i' && !isStar a' && chkE k n sc a a'
      | _ => false)
    | .xisV a => (match e with
      | .Call (.Name i' _) [a', .Name t' _] [] _ => decide (i' = Str.ofString "isinstance") && decide (t' = Str.ofString "ValueError") && k.T.frees.contains t' && glB sc t' && k.T.frees.contains i' && glB sc i' && !isStar a' && chkE k n sc a a'
      | _ => false)
    | .newX f ms how => (match e with
      | .Call (.Name f' _) es kws _ => (match kwNames kws with
        | some ks => decide (f = f') && (excOf k.P f).isSome && k.T.kwx.contains ⟨f, es.length, ks, how⟩ && glB sc f && okN f && noStars es && decide (es.length ≤ 900) && decide (ms.length = es.length + kws.length) && chkEs k n sc (ms.take es.length) es && chkEs k n sc (ms.drop es.length) (kws.map (·.value))
        | none => false)
      | _ => false)
    | .lrng a b => chkF k n sc (.lrng a b) e
    | .frzE a => chkE k n sc a e
    | .lock _ a => chkE k n sc a e
    | .lenO a => (match e with
      | .Call (.Name l _) [a'] [] _ => decide (l = Str.ofString "len") && k.T.frees.contains l && glB sc l && !isStar a' && chkE k n sc a a'
      | _ => false)
    | .isown a t => (match e with
      | .Call (.Name i' _) [a', .Name t' _] [] _ => decide (i' = Str.ofString "isinstance") && decide (t' = t) && glB sc t && okN t && (clsOf k.P t).isSome && k.T.frees.contains i' && glB sc i' && !isStar a' && chkE k n sc a a'
      | _ => false)
    | _ => false
def chkF (k : Kc) : Nat → Scope → ME → Expr → Bool
  | 0, _, _, _ => false
  | n + 1, sc, m, e => match m with
    | .lstE ms => (match e with
      | .List es _ => chkAs k n sc ms es
      | _ => false)
    | .dctE [] => (match e with
      | .Dict [] [] _ => true
      | _ => false)
    | .dctE (p :: ps) => (match e with
      | .Dict (k1 :: ks) vs _ => decide ((k1 :: ks).length ≤ 15) && chkPs k n sc (p :: ps) (k1 :: ks) vs
      | _ => false)
    | .lcomp a tg it cs => (match e with
      | .ListComp a' [⟨tg', it', cs', 0⟩] scope _ => chkI k n sc it it' && blkC k.N sc scope ((tgVars tg).map fun i => (k.N.getD i Str.empty, i)) && !isSet it' && chkG k n (relS scope sc) false tg tg' && chkCs k n (relS scope sc) cs cs' && chkE k n (relS scope sc) a a'
      | _ => false)
    | .lvals a => (match e with
      | .Call (.Name l _) [.Call (.Attribute a' v apos) [] [] cpos] [] _ => decide (l = Str.ofString "list") && decide (v = Str.ofString "values") && k.T.frees.contains l && glB sc l && (apos.endLine == cpos.line) && !bareCall a' && chkE k n sc a a'
      | _ => false)
    | .lrng a b => (match e with
      | .Call (.Name l _) [.Call (.Name r _) [a', b'] [] _] [] _ => decide (l = Str.ofString "list") && decide (r = Str.ofString "range") && k.T.frees.contains l && glB sc l && k.T.frees.contains r && glB sc r && !isStar a' && !isStar b' && chkE k n sc a a' && chkE k n sc b b'
      | _ => false)
    | .bi b ms => (match e with
      | .Call (.Name b' _) (e' :: es) [] _ => decide (b = b') && biNew.contains b && k.T.frees.contains b && glB sc b && noStars (e' :: es) && chkEs k n sc ms (e' :: es)
      | _ => false)
    | _ => false
def chkEs (k : Kc) : Nat → Scope → List ME → List Expr → Bool
  | 0, _, _, _ => false
  | n + 1, sc, ms, es => match ms, es with
    | [], [] => true
    | m :: ms, e :: es => chkE k n sc m e && chkEs k n sc ms es
    | _, _ => false
def chkAs (k : Kc) : Nat → Scope → List MA → List Expr → Bool
  | 0, _, _, _ => false
  | n + 1, sc, ms, es => match ms, es with
    | [], [] => true
    | .e m :: ms, e :: es => !isStar e && chkE k n sc m e && chkAs k n sc ms es
    | .star m :: ms, .Starred e _ :: es => chkE k n sc m e && chkAs k n sc ms es
    | _, _ => false
/-- the pairs of a dict display -/
def chkPs (k : Kc) : Nat → Scope → List MP → List (Option Expr) → List Expr → Bool
  | 0, _, _, _, _ => false
  | n + 1, sc, ps, ks, vs => match ps, ks, vs with
    | [], [], [] => true
    | .kv a b :: ps, some x :: ks, y :: vs => chkE k n sc a x && chkE k n sc b y && chkPs k n sc ps ks vs
    | _, _, _ => false
def chkT (k : Kc) : Nat → Scope → ME → Expr → Bool
  | 0, _, _, _ => false
  | n + 1, sc, m, e => match m, e with
    | .notE a, .UnaryOp .Not a' _ => chkT k n sc a a'
    | .andE a b, .BoolOp .And (a' :: r) _ => chkT k n sc a a' && chkW k n sc .And b r
    | .orE a b, .BoolOp .Or (a' :: r) _ => chkT k n sc a a' && chkW k n sc .Or b r
    | .cmp op a b, .Compare a' [op'] [b'] _ => decide (op = op') && chkE k n sc a a' && chkE k n sc b b' && !isSet b'
    | .cmp2 op1 op2 a b d, .Compare a' [op1', op2'] [b', d'] _ => decide (op1 = op1') && decide (op2 = op2') && chkE k n sc a a' && chkE k n sc b b' && chkE k n sc d d' && !isSet b' && !isSet d'
    | m, e => plainT e && chkE k n sc m e
/-- the rest of an and, of an or -/
def chkW (k : Kc) : Nat → Scope → BoolOp → ME → List Expr → Bool
  | 0, _, _, _, _ => false
  | n + 1, sc, op, m, es => match es with
    | [a'] => chkT k n sc m a'
    | a' :: r => (match op, m with
      | .And, .andE a b => chkT k n sc a a' && chkW k n sc .And b r
      | .Or, .orE a b => chkT k n sc a a' && chkW k n sc .Or b r
      | _, _ => false)
    | [] => false
/-- the tests of a comprehension -/
def chkCs (k : Kc) : Nat → Scope → List ME → List Expr → Bool
  | 0, _, _, _ => false
  | n + 1, sc, ms, es => match ms, es with
    | [], [] => true
    | [m], [e] => chkT k n sc m e
    | _, _ => false
def chkI (k : Kc) : Nat → Scope → MI → Expr → Bool
  | 0, _, _, _ => false
  | n + 1, sc, m, e => match m with
    | .val m => chkE k n sc m e
    | .range ms => (match e with
      | .Call (.Name r _) es [] _ => decide (r = Str.ofString "range") && k.T.frees.contains r && glB sc r && noStars es && (decide (es.length = 1) || decide (es.length = 2)) && chkEs k n sc ms es
      | _ => false)
    | _ => false
/-- a target; fn: in a def's own body -/
def chkG (k : Kc) : Nat → Scope → Bool → MT → Expr → Bool
  | 0, _, _, _, _ => false
  | n + 1, sc, fn, t, e => match t, e with
    | .var i, .Name x _ => decide (k.N[i]? = some x) && locB sc x && (fn || lclB sc x)
    | .tup ts, .Tuple es _ _ => chkGs k n sc fn ts es
    | .idx o i, .Subscript o' i' _ => chkE k n sc o o' && chkE k n sc i i' && !isSlice i'
    | _, _ => false
def chkGs (k : Kc) : Nat → Scope → Bool → List MT → List Expr → Bool
  | 0, _, _, _, _ => false
  | n + 1, sc, fn, ts, es => match ts, es with
    | [], [] => true
    | .var i :: ts, .Name x _ :: es => decide (k.N[i]? = some x) && locB sc x && (fn || lclB sc x) && chkGs k n sc fn ts es
    | _, _ => false
end
/-! ### an except suite -/
mutual
def chkX (k : Kc) : Nat → Scope → ME → Expr → Bool
  | 0, _, _, _ => false
  | n + 1, sc, m, e => match m with
    | .lit v => (match e with
      | .Constant c _ _ => litB v c
      | _ => false)
    | .var i => (match e with
      | .Name x _ => decide (k.N[i]? = some x) && visB sc x && okV x
      | _ => false)
    | .xfld a f => (match e with
      | .Attribute a' f' _ => decide (f = f') && chkX k n sc a a' && !bareCall a'
      | _ => false)
    | .cmpp op a b => (match e with
      | .Compare a' [op'] [b'] _ => decide (op = op') && chkX k n sc a a' && chkX k n sc b b' && !isSet b'
      | _ => false)
    | .lstE ms => (match e with
      | .List es _ => chkXs k n sc ms es
      | _ => false)
    | .box (.lstE ms) => (match e with
      | .List es _ => chkXs k n sc ms es
      | _ => false)
    | .bi b [m] => (match e with
      | .Call (.Name b' _) [e'] [] _ => decide (b = Str.ofString "repr") && decide (b' = b) && k.T.frees.contains b && glB sc b && !isStar e' && chkX k n sc m e'
      | _ => false)
    | .bm o b [m] => (match e with
      | .Call (.Attribute o' m' apos) [e'] [] pos => decide (b = .append) && decide (m' = Str.ofString "append") && chkX k n sc o o' && !bareCall o' && !isStar e' && (apos.endLine == pos.line) && chkX k n sc m e'
      | _ => false)
    | .isinst a t => (match e with
      | .Call (.Name i' _) [a', .Name t' _] [] _ => decide (i' = Str.ofString "isinstance") && ["bool", "int", "str", "tuple", "list", "dict"].contains t && decide (t' = Str.ofString t) && k.T.frees.contains t' && glB sc t' && k.T.frees.contains i' && glB sc i' && !isStar a' && chkX k n sc a a'
      | _ => false)
    | _ => false
def chkXs (k : Kc) : Nat → Scope → List MA → List Expr → Bool
  | 0, _, _, _ => false
  | n + 1, sc, ms, es => match ms, es with
    | [], [] => true
    | .e m :: ms, e :: es => !isStar e && chkX k n sc m e && chkXs k n sc ms es
    | _, _ => false
end
mutual
def chkXS (k : Kc) : Nat → Scope → MS → Stmt → Bool
  | 0, _, _, _ => false
  | n + 1, sc, m, s => match m with
    | .asg t a => (match t, s with
      | .var i, .Assign [.Name y _] e _ => decide (k.N[i]? = some y) && lclB sc y && !isComp e && chkX k n sc a e
      | _, _ => false)
    | .expr a => (match s with
      | .Expr a' _ => chkX k n sc a a' && !isComp a'
      | _ => false)
    | .ret a => (match s with
      | .Return (some a') _ => chkX k n sc a a'
      | _ => false)
    | .ifS t a b => (match s with
      | .If t' a' b' _ => plainT t' && chkX k n sc t t' && chkXSs k n sc a a' && chkXSs k n sc b b'
      | _ => false)
    | _ => false
def chkXSs (k : Kc) : Nat → Scope → List MS → List Stmt → Bool
  | 0, _, _, _ => false
  | n + 1, sc, ms, ss => match ms, ss with
    | [], [] => true
    | m :: ms, s :: ss => chkXS k n sc m s && chkXSs k n sc ms ss
    | _, _ => false
end
/-- the clauses of a try -/
def chkHs (k : Kc) (n : Nat) (sc : Scope) : List MH → List ExceptHandler → Bool
  | [], [] => true
  | .mk [x] oi ms :: mhs, .ExceptHandler (some (.Name x' _)) on (b :: suite) _ :: hds => decide (x = x') && k.T.hnd.contains x && glB sc x && okN x && (match oi, on with
      | none, none => true
      | some i, some y => decide (k.N[i]? = some y) && lclB sc y
      | _, _ => false) && chkXSs k n sc ms (b :: suite) && chkHs k n sc mhs hds
  | _, _ => false
mutual
def chkS (k : Kc) : Nat → Scope → MS → Stmt → Bool
  | 0, _, _, _ => false
  | n + 1, sc, m, s => match m with
    | .bad => true
    | .pass => (match s with
      | .Pass _ => true
      | _ => false)
    | .brk => (match s with
      | .Break _ => true
      | _ => false)
    | .cnt => (match s with
      | .Continue _ => true
      | _ => false)
    | .expr a => (match s with
      | .Expr a' _ => chkE k n sc a a' && !isComp a'
      | _ => false)
    | .ret a => (match s with
      | .Return (some a') _ => chkE k n sc a a'
      | .Return none _ => (match a with
        | .lit .non => true
        | _ => false)
      | _ => false)
    | .ifS t a b => (match s with
      | .If t' a' b' _ => chkT k n sc t t' && chkSs k n sc a a' && chkSs k n sc b b'
      | _ => false)
    | .whileS t a => (match s with
      | .While t' a' [] _ => chkT k n sc t t' && chkSs k n sc a a'
      | _ => false)
    | .forS t i a => (match s with
      | .For t' i' a' [] _ => chkI k n sc i i' && chkG k n sc true t t' && chkSs k n sc a a' && !isSet i'
      | _ => false)
    | .asg t a => (match s with
      | .Assign [.Attribute o f _] e _ => (match t with
        | .fld o' f' => decide (f' = f) && chkE k n sc o' o && chkE k n sc a e && !isComp e
        | _ => false)
      | .Assign [.Name y py] e pos => (match t with
        | .var i => if isComp e then (match e with
          | .ListComp _ _ _ _ => if swcB e y py sc then decide (k.N[i]? = some y) && lclB sc y && (match a with
              | .box b => chkF k n sc b e
              | b => chkF k n sc b e) else decide (k.N[i]? = some y) && locB sc y && chkE k n sc a e
          | _ => false) else decide (k.N[i]? = some y) && locB sc y && chkE k n sc a e
        | _ => false)
      | .Assign [.Subscript o i p] e _ => chkG k n sc true t (.Subscript o i p) && chkE k n sc a e && !isComp e
      | .Assign [.Tuple es k1 p] e _ => (match swS [.Tuple es k1 p] e sc with
        | some none => chkG k n sc true t (.Tuple es k1 p) && chkE k n sc a e && !isComp e
        | some (some _) => (match es, t, e, a with
          | [.Name x _, .Name y _], .tup [.var i, .var j], .Tuple [e1, e2] _ _, .tupE [.e m1, .e m2] => decide (k.N[i]? = some x) && decide (k.N[j]? = some y) && decide (i ≠ j) && lclB sc x && lclB sc y && decide (swS [.Tuple es k1 p] e sc = some (some [x, y])) && chkAs k n sc [.e m1, .e m2] [e1, e2]
          | [.Name x _, .Name y _, .Name z _], .tup [.var i, .var j, .var l], .Tuple [e1, e2, e3] _ _, .tupE [.e m1, .e m2, .e m3] => decide (k.N[i]? = some x) && decide (k.N[j]? = some y) && decide (k.N[l]? = some z) && decide (i ≠ j) && decide (i ≠ l) && decide (j ≠ l) && lclB sc x && lclB sc y && lclB sc z && decide (swS [.Tuple es k1 p] e sc = some (some [x, y, z])) && chkAs k n sc [.e m1, .e m2, .e m3] [e1, e2, e3]
          | _, _, _, _ => false)
        | none => false)
      | _ => false)
    | .raise x ms => (match s with
      | .Raise (some (.Call (.Name x' _) (e :: es) [] _)) none _ => decide (x = x') && (excOf k.P x).isSome && glB sc x && okN x && noStars (e :: es) && chkEs k n sc ms (e :: es)
      | _ => false)
    | .tryS a hs => (match s with
      | .Try a' (h :: hds) [] [] _ => chkSs k n sc a a' && chkHs k n sc hs (h :: hds)
      | _ => false)
    | _ => false
def chkSs (k : Kc) : Nat → Scope → List MS → List Stmt → Bool
  | 0, _, _, _ => false
  | n + 1, sc, ms, ss => match ms, ss with
    | [], [] => true
    | m :: ms, s :: ss => chkS k n sc m s && chkSs k n sc ms ss
    | _, _ => false
end
end Mi
/-! Mini, part Z: the checker is sound. -/
set_option autoImplicit false
set_option linter.all false
namespace Mi
open PySem L2

structure OkN (k : Kc) (n : Nat) : Prop where
  E : ∀ {sc : Scope} {m : ME} {e : Expr} {c : Cf} {wx : WX} {X : Cx}, chkE k n sc m e = true → c.P = k.P → Ctx c k.T k.N sc wx X → PE X e (tE c wx m)
  F : ∀ {sc : Scope} {m : ME} {e : Expr} {c : Cf} {wx : WX} {X : Cx}, chkF k n sc m e = true → c.P = k.P → Ctx c k.T k.N sc wx X → PE X e (tF c wx m)
  Es : ∀ {sc : Scope} {m : List ME} {e : List Expr} {c : Cf} {wx : WX} {X : Cx}, chkEs k n sc m e = true → noStars e = true → c.P = k.P → Ctx c k.T k.N sc wx X → PA X e (tA c wx m)
  Ks : ∀ {sc : Scope} {m : List ME} {kws : List Keyword} {c : Cf} {wx : WX} {X : Cx}, chkEs k n sc m (kws.map (·.value)) = true → c.P = k.P → Ctx c k.T k.N sc wx X → PK X kws (tA c wx m)
  As : ∀ {sc : Scope} {m : List MA} {e : List Expr} {c : Cf} {wx : WX} {X : Cx}, chkAs k n sc m e = true → c.P = k.P → Ctx c k.T k.N sc wx X → PA X e (tAs c wx m)
  Ps : ∀ {sc : Scope} {m : List MP} {ks : List (Option Expr)} {vs : List Expr} {pos : Pos} {c : Cf} {wx : WX} {X : Cx}, chkPs k n sc m ks vs = true → c.P = k.P → Ctx c k.T k.N sc wx X → PPs X pos ks vs (trsOf c wx m) ∧ ks.all (·.isSome) = true ∧ ks.length = vs.length
  T : ∀ {sc : Scope} {m : ME} {e : Expr} {c : Cf} {wx : WX} {X : Cx}, chkT k n sc m e = true → c.P = k.P → Ctx c k.T k.N sc wx X → PT X e (tTst c wx m)
  W : ∀ {sc : Scope} {op : BoolOp} {m : ME} {e : List Expr} {pos : Pos} {c : Cf} {wx : WX} {X : Cx}, chkW k n sc op m e = true → c.P = k.P → Ctx c k.T k.N sc wx X → PW X (.BoolOp op e pos) (tTst c wx m)
  Cs : ∀ {sc : Scope} {m : List ME} {e : List Expr} {c : Cf} {wx : WX} {X : Cx}, chkCs k n sc m e = true → c.P = k.P → Ctx c k.T k.N sc wx X → PTs X e (tCs c wx m)
  I : ∀ {sc : Scope} {m : MI} {tg e : Expr} {c : Cf} {wx : WX} {X : Cx}, chkI k n sc m e = true → c.P = k.P → Ctx c k.T k.N sc wx X → PI X tg e (tI c wx m)
  G : ∀ {sc : Scope} {fn : Bool} {m : MT} {e : Expr} {c : Cf} {wx : WX} {X : Cx}, chkG k n sc fn m e = true → (fn = true → ∀ x, X.fn x = true) → c.P = k.P → Ctx c k.T k.N sc wx X → PG X e (tG c wx m (tgVars m))
  Gs : ∀ {sc : Scope} {fn : Bool} {m : List MT} {e : List Expr} {c : Cf} {wx : WX} {X : Cx}, chkGs k n sc fn m e = true → (fn = true → ∀ x, X.fn x = true) → c.P = k.P → Ctx c k.T k.N sc wx X → PGs X e (tGs c NoX m (tgVarL m)) ∧ (∀ t ∈ m, ∃ i, t = MT.var i) ∧ e.all isName = true ∧ e.length = m.length

section
variable {k : Kc} {n : Nat} {sc : Scope} {c : Cf} {wx : WX} {X : Cx}
theorem gl_of (cx : Ctx c k.T k.N sc wx X) {x : Str} (h : glB sc x = true) : Gl X x := by
  show X.env.scope.names.lookup x = _
  rw [cx.scope]; simpa [glB] using h
theorem loc_of {x : Str} (h : locB sc x = true) : L2.Loc sc x := by
  unfold locB at h
  split at h
  · exact .inl (by assumption)
  · exact .inr (by assumption)
  · cases h
theorem vis_of (cx : Ctx c k.T k.N sc wx X) {x : Str} (h : visB sc x = true) : Vis X.env.scope x := by
  rw [cx.scope]
  unfold visB at h
  split at h
  · exact .inl (by assumption)
  · exact .inr (.inl (by assumption))
  · exact .inr (.inr (by assumption))
  · cases h
theorem lit_ok {v : MV} {cst : Const} {j : Nat} {pos : Pos} (h : litB v cst = true) : PE X (.Constant cst j pos) (tE c wx (.lit v)) := by
  cases v <;> cases cst <;> first | cases h | skip
  · exact tE_lit pe_non fun _ _ => rfl
  · rename_i a b
    have e : a = b := by simpa [litB] using h
    subst e; exact tE_lit pe_bl fun _ _ => rfl
  · rename_i a b
    have e : a = b := by simpa [litB] using h
    subst e; exact tE_lit pe_int fun _ _ => rfl
  · rename_i a b
    have e : a = b := by simpa [litB] using h
    subst e; exact tE_lit pe_str fun _ _ => rfl
theorem glo_ok' (cx : Ctx c k.T k.N sc wx X) {x : Str} {v : MV} {pos : Pos} (h1 : k.T.globs.contains (x, v) = true) (h2 : glB sc x = true) (h3 : okN x = true) : PE X (.Name x pos) (tE c wx (.glo x v)) := by
  obtain ⟨y, u, hm, r, s⟩ := cx.stat.glob (x, v) (by simpa using h1)
  exact tE_glo (pe_glob (gl_of cx h2) (by rw [cx.mg]; exact hm) r (okN_d h3)) fun _ _ => s.rv

/-! ### methods of built-in things -/
theorem bm_ok (cx : Ctx c k.T k.N sc wx X) {o : Expr} {es : List Expr} {b : BM} {nm : Str} {j : Nat} {apos pos : Pos} {mo : ME} {ms : List ME} (ht : bmTab b = some (nm, j)) (ho : PE X o (tE c wx mo)) (hb : bareCall o = false) (hs : noStars es = true) (hj : es.length = j) (hj2 : ms.length = j) (hp : (apos.endLine == pos.line) = true) (ha : PA X es (tA c wx ms)) (hE : ∀ e m, es = [e] → ms = [m] → PE X e (tE c wx m)) : PE X (.Call (.Attribute o nm apos) es [] pos) (tE c wx (.bm mo b ms)) := by
  have one : ∀ {es : List Expr} {ms : List ME}, es.length = 1 → ms.length = 1 → noStars es = true → ∃ e m, es = [e] ∧ ms = [m] ∧ isStar e = false := by
    intro es ms h1 h2 h3
    match es, ms, h1, h2 with
    | [e], [m], _, _ => exact ⟨e, m, rfl, rfl, by simpa [noStars] using h3⟩
  have two : ∀ {es : List Expr} {ms : List ME}, es.length = 2 → ms.length = 2 → noStars es = true → ∃ e e' m m', es = [e, e'] ∧ ms = [m, m'] ∧ isStar e = false ∧ isStar e' = false := by
    intro es ms h1 h2 h3
    match es, ms, h1, h2 with
    | [e, e'], [m, m'], _, _ =>
      simp [noStars] at h3
      exact ⟨e, e', m, m', rfl, rfl, h3.1, h3.2⟩
  cases b <;> first | cases ht | skip
  · obtain ⟨e, m, rfl, rfl, h⟩ := one hj hj2 hs
    exact tE_bmG cx.c0 PySem.F.plainAttrs_list PySem.F.slot_list_append PySem.F.type_list_append mtM_append (ty_list fun _ _ => rfl) ho ha hb h (by simp) (by simp) hp
  · obtain ⟨e, m, rfl, rfl, h⟩ := one hj hj2 hs
    exact tE_bmG cx.c0 PySem.F.plainAttrs_list PySem.F.slot_list_extend PySem.F.type_list_extend mtM_extend (ty_list fun _ _ => rfl) ho ha hb h (by simp) (by simp) hp
  · have : es = [] := by simpa using hj
    subst this
    have : ms = [] := by simpa using hj2
    subst this
    exact tE_bm0 cx.c0 PySem.F.plainAttrs_list PySem.F.slot_list_pop PySem.F.type_list_pop mtM_pop (ty_list fun _ _ => rfl) ho hb hp
  · obtain ⟨e, m, rfl, rfl, h⟩ := one hj hj2 hs
    exact tE_bmG cx.c0 PySem.F.plainAttrs_list PySem.F.slot_list_pop PySem.F.type_list_pop mtM_popAt (ty_list fun _ _ => rfl) ho ha hb h (by simp) (by simp) hp
  · obtain ⟨e, e', m, m', rfl, rfl, h, h'⟩ := two hj hj2 hs
    exact tE_bmG cx.c0 PySem.F.plainAttrs_list PySem.F.slot_list_insert PySem.F.type_list_insert mtM_insert (ty_list fun _ _ => rfl) ho ha hb h (by simp [h']) (by simp) hp
  · have : es = [] := by simpa using hj
    subst this
    have : ms = [] := by simpa using hj2
    subst this
    exact tE_bm0 cx.c0 PySem.F.plainAttrs_list PySem.F.slot_list_clear PySem.F.type_list_clear mtM_clear (ty_list fun _ _ => rfl) ho hb hp
  · obtain ⟨e, m, rfl, rfl, h⟩ := one hj hj2 hs
    exact tE_get cx ho (hE e m rfl rfl) hb h hp
  · have : es = [] := by simpa using hj
    subst this
    have : ms = [] := by simpa using hj2
    subst this
    exact tE_bm0 cx.c0 PySem.F.plainAttrs_dict PySem.F.slot_dict_clear PySem.F.type_dict_clear mtM_dclear ty_dct ho hb hp
  · obtain ⟨e, m, rfl, rfl, h⟩ := one hj hj2 hs
    exact tE_bmG cx.c0 PySem.F.plainAttrs_str PySem.F.slot_str_join PySem.F.type_str_join (mtM_join cx.K) (ty_str fun _ _ => rfl) ho ha hb h (by simp) (by simp) hp
  · obtain ⟨e, m, rfl, rfl, h⟩ := one hj hj2 hs
    exact tE_bmG cx.c0 PySem.F.plainAttrs_str PySem.F.slot_str_split PySem.F.type_str_split mtM_split (ty_str fun _ _ => rfl) ho ha hb h (by simp) (by simp) hp

theorem tE_meth (cx : Ctx c k.T k.N sc wx X) {o e : Expr} {es : List Expr} {m : Str} {apos pos : Pos} {mo : ME} {ms : List ME} (ho : PE X o (tE c wx mo)) (hb : bareCall o = false) (hs : noStars (e :: es) = true) (hl : (e :: es).length < 30) (hp : (apos.endLine == pos.line) = true) (ha : PA X (e :: es) (tA c wx ms)) : PE X (.Call (.Attribute o m apos) (e :: es) [] pos) (tE c wx (.meth mo m ms)) := by
  obtain ⟨pl, ht⟩ := ht_gen o e es m apos pos X.env hb hs hl hp
  have hs1 : isStar e = false := by simpa using (List.all_eq_true.mp hs e (List.mem_cons_self ..))
  have hs2 : es.all (fun e => !isStar e) = true := by
    simp only [noStars, List.all_cons, Bool.and_eq_true] at hs; exact hs.2
  refine PE.dyn fun σ H Q => ?_
  rintro ⟨β, M, ρ, rm, rs, ok⟩
  rw [evalE] at ok
  cases ev : evalE c.P c.cal mo ρ M with
  | err => rw [ev] at ok; exact ok.elim
  | ex cn ns vs M' =>
    rw [ev] at ok
    refine ⟨fun σ H Q => tE c wx mo σ H (fun _ _ => False), ⟨fun pins s σ H Q I h => W.methodCall_KW (pl := pl) (thn (ho.run pins s σ H _ I h) fun u s1 x => ?_) ht⟩, β, M, ρ, rm, rs, by rw [ev]; exact ok⟩
    obtain ⟨_, _, _, _, hf⟩ := x
    exact hf.elim
  | ok v M1 =>
    rw [ev] at ok
    simp only [Res.bind] at ok
    cases hmo : methOf c.P M1 v m with
    | none => rw [hmo] at ok; exact ok.elim
    | some f =>
      rw [hmo] at ok
      exact tE_methOwn cx ho hs1 hs2 ha ht rm rs ev hmo fun β1 H1 st _ => OkR.from ok st
theorem lc_parts (ok : ∀ j, j ≤ n → OkN k j) (cx : Ctx c k.T k.N sc wx X) (hP : c.P = k.P) {a : ME} {tg : MT} {it : MI} {cs : List ME} {a' tg' it' : Expr} {cs' : List Expr} {scope : Scope} (h : (chkI k n sc it it' && blkC k.N sc scope ((tgVars tg).map fun i => (k.N.getD i Str.empty, i)) && !isSet it' && chkG k n (relS scope sc) false tg tg' && chkCs k n (relS scope sc) cs cs' && chkE k n (relS scope sc) a a') = true) :
    PI X tg' it' (tI c wx it) ∧ BlkOk k.N sc scope ((tgVars tg).map fun i => (k.N.getD i Str.empty, i)) ∧ isSet it' = false ∧ (((tgVars tg).map fun i => (k.N.getD i Str.empty, i)).map (·.2) = tgVars tg) ∧
    (∀ (D : Addr) (X' : Cx), Ctx (c.hide D) k.T k.N (relS scope sc) NoX X' → (∀ x, X'.fn x = (scope.names.lookup x == some .cell)) → PG X' tg' (tG (c.hide D) NoX tg (tgVars tg))) ∧
    (∀ (D : Addr) (X' : Cx), Ctx (c.hide D) k.T k.N (relS scope sc) NoX X' → PTs X' cs' (tCs (c.hide D) NoX cs)) ∧
    (∀ (D : Addr) (X' : Cx), Ctx (c.hide D) k.T k.N (relS scope sc) NoX X' → PE X' a' (tE (c.hide D) NoX a)) := by
  simp only [Bool.and_eq_true, Bool.not_eq_true'] at h
  obtain ⟨⟨⟨⟨⟨h1, h2⟩, h3⟩, h4⟩, h5⟩, h6⟩ := h
  refine ⟨(ok n (Nat.le_refl _)).I h1 hP cx, blkOk_by h2, h3, ?_, ?_, ?_, ?_⟩
  · rw [List.map_map]
    show List.map (fun i => i) (tgVars tg) = tgVars tg
    simp
  · intro D X' cx' _
    exact (ok n (Nat.le_refl _)).G h4 (by intro z; cases z) hP cx'
  · intro D X' cx'
    exact (ok n (Nat.le_refl _)).Cs h5 hP cx'
  · intro D X' cx'
    exact (ok n (Nat.le_refl _)).E h6 hP cx'
theorem okF (ok : ∀ j, j ≤ n → OkN k j) (hP : c.P = k.P) (cx : Ctx c k.T k.N sc wx X) {m : ME} {e : Expr} (h : chkF k (n + 1) sc m e = true) : PE X e (tF c wx m) := by
  have o := ok n (Nat.le_refl _)
  unfold chkF at h
  split at h
  · split at h
    · exact tF_lst (o.As h hP cx)
    · cases h
  · split at h
    · exact tF_dct0
    · cases h
  · split at h
    · simp only [Bool.and_eq_true, decide_eq_true_eq] at h
      obtain ⟨h1, h2, h3⟩ := o.Ps (pos := ‹Pos›) (wx := wx) h.2 hP cx
      exact tF_disp h1 h2 h3 (by simp) h.1
    · cases h
  · split at h
    · obtain ⟨p1, p2, p3, p4, p5, p6, p7⟩ := lc_parts ok cx hP h
      exact tF_lcomp cx p1 p2 p3 p4 p5 p6 p7
    · cases h
  · split at h
    · simp only [Bool.and_eq_true, decide_eq_true_eq, Bool.not_eq_true'] at h
      obtain ⟨⟨⟨⟨⟨⟨rfl, rfl⟩, h1⟩, h2⟩, h3⟩, h4⟩, h5⟩ := h
      exact tF_lvals cx (o.E h5 hP cx) h4 (by simpa using h1) (gl_of cx h2) h3
    · cases h
  · split at h
    · simp only [Bool.and_eq_true, decide_eq_true_eq, Bool.not_eq_true'] at h
      obtain ⟨⟨⟨⟨⟨⟨⟨⟨⟨rfl, rfl⟩, h1⟩, h2⟩, h3⟩, h4⟩, h5⟩, h6⟩, h7⟩, h8⟩ := h
      exact tF_lrng cx (by simpa using h1) (gl_of cx h2) (by simpa using h3) (gl_of cx h4) h5 h6 (o.E h7 hP cx) (o.E h8 hP cx)
    · cases h
  · split at h
    · rename_i b ms e0 b' p e' es pos
      simp only [Bool.and_eq_true, decide_eq_true_eq] at h
      obtain ⟨⟨⟨⟨⟨rfl, h1⟩, h2⟩, h3⟩, h4⟩, h5⟩ := h
      have ha := o.Es h5 h4 hP cx
      have hs1 : isStar e' = false := by simpa using (List.all_eq_true.mp h4 e' (List.mem_cons_self ..))
      have hs2 : es.all (fun e => !isStar e) = true := by
        simp only [noStars, List.all_cons, Bool.and_eq_true] at h4; exact h4.2
      have hfr : b ∈ k.T.frees := by simpa using h2
      have hm : X.mg b = none := by rw [cx.mg]; exact cx.stat.free b hfr
      have hg := gl_of cx h3
      have hb : b = "sorted" ∨ b = "list" ∨ b = "dict" := by simpa [biNew] using h1
      rcases hb with rfl | rfl | rfl
      · exact tF_of_call (t := tA c wx ms) (g := biSorted) (fun M vs => rfl) (pe_callB (cr_sortedM cx.K cx.calm) hg hm (by decide +kernel) ha (by decide +kernel) (by decide +kernel) (notStar hs1) (starsNil hs2))
      · exact tF_of_call (t := tA c wx ms) (g := biList) (fun M vs => rfl) (pe_callTy (cr_listM cx.K cx.calm) hg hm (by decide +kernel) ha (by decide +kernel) (by decide +kernel) (notStar hs1) (starsNil hs2))
      · exact tF_of_call (t := tA c wx ms) (g := biDict) (fun M vs => rfl) (pe_callTy (cr_dictM cx.K cx.calm) hg hm (by decide +kernel) ha (by decide +kernel) (by decide +kernel) (notStar hs1) (starsNil hs2))
    · cases h
  · cases h
theorem okEs (ok : ∀ j, j ≤ n → OkN k j) (hP : c.P = k.P) (cx : Ctx c k.T k.N sc wx X) {m : List ME} {e : List Expr} (h : chkEs k (n + 1) sc m e = true) (hs : noStars e = true) : PA X e (tA c wx m) := by
  have o := ok n (Nat.le_refl _)
  unfold chkEs at h
  split at h
  · exact tA_nil
  · simp only [Bool.and_eq_true] at h
    simp only [noStars, List.all_cons, Bool.and_eq_true, Bool.not_eq_true'] at hs
    exact tA_cons hs.1 (o.E h.1 hP cx) (o.Es h.2 hs.2 hP cx)
  · cases h
theorem okKs (ok : ∀ j, j ≤ n → OkN k j) (hP : c.P = k.P) (cx : Ctx c k.T k.N sc wx X) {m : List ME} {kws : List Keyword} (h : chkEs k (n + 1) sc m (kws.map (·.value)) = true) : PK X kws (tA c wx m) := by
  have o := ok n (Nat.le_refl _)
  cases kws with
  | nil =>
    cases m with
    | nil => exact tK_nil
    | cons a b => cases h
  | cons q kws =>
    cases m with
    | nil => cases h
    | cons a b =>
      obtain ⟨nm, e, kp⟩ := q
      unfold chkEs at h
      simp only [List.map_cons, Bool.and_eq_true] at h
      exact tK_cons (o.E h.1 hP cx) (o.Ks h.2 hP cx)
theorem okAs (ok : ∀ j, j ≤ n → OkN k j) (hP : c.P = k.P) (cx : Ctx c k.T k.N sc wx X) {m : List MA} {e : List Expr} (h : chkAs k (n + 1) sc m e = true) : PA X e (tAs c wx m) := by
  have o := ok n (Nat.le_refl _)
  unfold chkAs at h
  split at h
  · exact tAs_nil
  · simp only [Bool.and_eq_true, Bool.not_eq_true'] at h
    exact tAs_cons h.1.1 (o.E h.1.2 hP cx) (o.As h.2 hP cx)
  · simp only [Bool.and_eq_true] at h
    exact tAs_star cx (o.E h.1 hP cx) (o.As h.2 hP cx)
  · cases h
theorem okPs (ok : ∀ j, j ≤ n → OkN k j) (hP : c.P = k.P) (cx : Ctx c k.T k.N sc wx X) {m : List MP} {ks : List (Option Expr)} {vs : List Expr} {pos : Pos} (h : chkPs k (n + 1) sc m ks vs = true) : PPs X pos ks vs (trsOf c wx m) ∧ ks.all (·.isSome) = true ∧ ks.length = vs.length := by
  have o := ok n (Nat.le_refl _)
  unfold chkPs at h
  split at h
  · exact ⟨pps_nil, rfl, rfl⟩
  · simp only [Bool.and_eq_true] at h
    obtain ⟨h1, h2, h3⟩ := o.Ps (pos := pos) (wx := wx) h.2 hP cx
    refine ⟨pps_cons (PE.ex fun D => ?_) (PE.ex fun D => ?_) h1, by simpa using h2, by simp [h3]⟩
    · exact o.E (c := c.hide D) h.1.1 hP (cx.hide D)
    · exact o.E (c := c.hide D) h.1.2 hP (cx.hide D)
  · cases h
theorem okW (ok : ∀ j, j ≤ n → OkN k j) (hP : c.P = k.P) (cx : Ctx c k.T k.N sc wx X) {op : BoolOp} {m : ME} {e : List Expr} {pos : Pos} (h : chkW k (n + 1) sc op m e = true) : PW X (.BoolOp op e pos) (tTst c wx m) := by
  have o := ok n (Nat.le_refl _)
  unfold chkW at h
  split at h
  · cases op with
    | And => exact pw_and1 (o.T h hP cx)
    | Or => exact pw_or1 (o.T h hP cx)
  · rename_i a' r hne
    split at h
    · simp only [Bool.and_eq_true] at h
      cases r with
      | nil => exact (hne rfl).elim
      | cons b r => exact tT_and (o.T h.1 hP cx) (o.W h.2 hP cx)
    · simp only [Bool.and_eq_true] at h
      cases r with
      | nil => exact (hne rfl).elim
      | cons b r => exact tT_or (o.T h.1 hP cx) (o.W h.2 hP cx)
    · cases h
  · cases h
theorem okT (ok : ∀ j, j ≤ n → OkN k j) (hP : c.P = k.P) (cx : Ctx c k.T k.N sc wx X) {m : ME} {e : Expr} (h : chkT k (n + 1) sc m e = true) : PT X e (tTst c wx m) := by
  have o := ok n (Nat.le_refl _)
  unfold chkT at h
  split at h
  · exact tT_not (o.T h hP cx)
  · rename_i a b a' r pos
    simp only [Bool.and_eq_true] at h
    cases r with
    | nil => 
      have h2 := h.2
      cases n with
      | zero => cases h2
      | succ j => unfold chkW at h2; cases h2
    | cons b' r => exact (tT_and (o.T h.1 hP cx) (o.W h.2 hP cx)).pt
  · rename_i a b a' r pos
    simp only [Bool.and_eq_true] at h
    cases r with
    | nil =>
      have h2 := h.2
      cases n with
      | zero => cases h2
      | succ j => unfold chkW at h2; cases h2
    | cons b' r => exact (tT_or (o.T h.1 hP cx) (o.W h.2 hP cx)).pt
  · simp only [Bool.and_eq_true, decide_eq_true_eq, Bool.not_eq_true'] at h
    obtain ⟨⟨⟨rfl, h1⟩, h2⟩, h3⟩ := h
    exact tT_cmp cx (o.E h1 hP cx) (o.E h2 hP cx) h3
  · simp only [Bool.and_eq_true, decide_eq_true_eq, Bool.not_eq_true'] at h
    obtain ⟨⟨⟨⟨⟨⟨rfl, rfl⟩, h1⟩, h2⟩, h3⟩, h4⟩, h5⟩ := h
    exact tT_cmp2 cx (o.E h1 hP cx) (o.E h2 hP cx) (o.E h3 hP cx) h4 h5
  · simp only [Bool.and_eq_true] at h
    exact tT_of cx.K (o.E h.2 hP cx) h.1
theorem okCs (ok : ∀ j, j ≤ n → OkN k j) (hP : c.P = k.P) (cx : Ctx c k.T k.N sc wx X) {m : List ME} {e : List Expr} (h : chkCs k (n + 1) sc m e = true) : PTs X e (tCs c wx m) := by
  have o := ok n (Nat.le_refl _)
  unfold chkCs at h
  split at h
  · exact tCs_nil
  · exact tCs_one (o.T h hP cx)
  · cases h
theorem okI (ok : ∀ j, j ≤ n → OkN k j) (hP : c.P = k.P) (cx : Ctx c k.T k.N sc wx X) {m : MI} {tg e : Expr} (h : chkI k (n + 1) sc m e = true) : PI X tg e (tI c wx m) := by
  have o := ok n (Nat.le_refl _)
  unfold chkI at h
  split at h
  · exact tI_val cx (o.E h hP cx)
  · split at h
    · rename_i ms e0 r p es pos
      simp only [Bool.and_eq_true, Bool.or_eq_true, decide_eq_true_eq] at h
      obtain ⟨⟨⟨⟨⟨rfl, h1⟩, h2⟩, h3⟩, h4⟩, h5⟩ := h
      have ha := o.Es h5 h3 hP cx
      have hfr : Str.ofString "range" ∈ k.T.frees := by simpa using h1
      have hg := gl_of cx h2
      have lenM : ∀ {j : Nat} {ms : List ME} {es : List Expr}, chkEs k j sc ms es = true → ms.length = es.length := by
        intro j
        induction j with
        | zero => intro ms es h; cases h
        | succ j ih =>
          intro ms es h
          unfold chkEs at h
          split at h
          · rfl
          · simp only [Bool.and_eq_true] at h
            simp [ih h.2]
          · cases h
      have hl := lenM h5
      rcases h4 with h4 | h4
      · match es, ms, h4, hl with
        | [a], [m], _, _ => exact tI_range1 cx hfr hg (by simpa [noStars] using h3) ha
      · match es, ms, h4, hl with
        | [a, b], [m, m'], _, _ =>
          simp [noStars] at h3
          exact tI_range2 cx hfr hg h3.1 h3.2 ha
    · cases h
  · cases h
theorem okGs (ok : ∀ j, j ≤ n → OkN k j) (hP : c.P = k.P) (cx : Ctx c k.T k.N sc wx X) {fn : Bool} {m : List MT} {e : List Expr} (h : chkGs k (n + 1) sc fn m e = true) (hf : fn = true → ∀ x, X.fn x = true) : PGs X e (tGs c NoX m (tgVarL m)) ∧ (∀ t ∈ m, ∃ i, t = MT.var i) ∧ e.all isName = true ∧ e.length = m.length := by
  have o := ok n (Nat.le_refl _)
  unfold chkGs at h
  split at h
  · exact ⟨tGs_nil, by simp, rfl, rfl⟩
  · rename_i i ts x p es
    simp only [Bool.and_eq_true, Bool.or_eq_true, decide_eq_true_eq] at h
    obtain ⟨⟨⟨h1, h2⟩, h3⟩, h4⟩ := h
    obtain ⟨q1, q2, q3, q4⟩ := o.Gs h4 hf hP cx
    refine ⟨tGs_cons cx (fun _ _ _ _ _ _ => .inr trivial) h1 (loc_of h2) ?_ q1, ?_, ?_, by simp [q4]⟩
    · rcases h3 with h3 | h3
      · exact .inl (hf h3 x)
      · exact .inr (by simpa [lclB] using h3)
    · intro t ht
      rcases List.mem_cons.mp ht with rfl | ht
      · exact ⟨i, rfl⟩
      · exact q2 t ht
    · simp only [List.all_cons, q3, Bool.and_true]; rfl
  · cases h
theorem okG (ok : ∀ j, j ≤ n → OkN k j) (hP : c.P = k.P) (cx : Ctx c k.T k.N sc wx X) {fn : Bool} {m : MT} {e : Expr} (h : chkG k (n + 1) sc fn m e = true) (hf : fn = true → ∀ x, X.fn x = true) : PG X e (tG c wx m (tgVars m)) := by
  have o := ok n (Nat.le_refl _)
  unfold chkG at h
  split at h
  · rename_i i x p
    simp only [Bool.and_eq_true, Bool.or_eq_true, decide_eq_true_eq] at h
    obtain ⟨⟨h1, h2⟩, h3⟩ := h
    refine tG_var cx.c0 h1 (loc_of h2) ?_
    rcases h3 with h3 | h3
    · exact .inl (hf h3 x)
    · exact .inr (by simpa [lclB] using h3)
  · rename_i ts es j p
    obtain ⟨q1, q2, q3, q4⟩ := o.Gs h hf hP cx
    obtain ⟨e1, e2⟩ := asgEach_names (env := X.env) q3
    exact tG_tup cx q2 q1 (by rw [e1, q4]) e2
  · simp only [Bool.and_eq_true, Bool.not_eq_true'] at h
    exact tG_idx cx (o.E h.1.1 hP cx) (o.E h.1.2 hP cx) (asg_sub h.2)
  · cases h
end
end Mi
/-! Mini, part Zx: except suites. -/
set_option autoImplicit false
set_option linter.all false
namespace Mi
open PySem L2
section
variable {k : Kc} {n : Nat} {sc : Scope} {c : Cf} {wx : WX} {X : Cx}
theorem gl_of0 (cx : Ctx0 c k.T k.N sc X) {x : Str} (h : glB sc x = true) : Gl X x := by
  show X.env.scope.names.lookup x = _
  rw [cx.scope]; simpa [glB] using h
theorem vis_of0 (cx : Ctx0 c k.T k.N sc X) {x : Str} (h : visB sc x = true) : Vis X.env.scope x := by
  rw [cx.scope]
  unfold visB at h
  split at h
  · exact .inl (by assumption)
  · exact .inr (.inl (by assumption))
  · exact .inr (.inr (by assumption))
  · cases h
theorem isi_ok0 (cx : Ctx0 c k.T k.N sc X) {t : String} {a : Expr} {p p2 pos : Pos} {m : ME} (ht : ["bool", "int", "str", "tuple", "list", "dict"].contains t = true) (h1 : k.T.frees.contains (Str.ofString t) = true) (h2 : glB sc (Str.ofString t) = true) (h3 : k.T.frees.contains (Str.ofString "isinstance") = true) (h4 : glB sc (Str.ofString "isinstance") = true) (hs : isStar a = false) (ha : PE X a (tE c wx m)) : PE X (.Call (.Name (Str.ofString "isinstance") p) [a, .Name (Str.ofString t) p2] [] pos) (tE c wx (.isinst m t)) := by
  have hm : t ∈ ["bool", "int", "str", "tuple", "list", "dict"] := by simpa using ht
  have hv : bootBuiltins (Str.ofString t) = some (.type t) ∧ okN (Str.ofString t) = true := by
    simp only [List.mem_cons, List.mem_nil_iff, or_false] at hm
    rcases hm with rfl | rfl | rfl | rfl | rfl | rfl <;> exact ⟨by decide +kernel, by decide +kernel⟩
  exact tE_isinst cx hm hv.1 (by simpa using h1) (gl_of0 cx h2) hv.2 (by simpa using h3) (gl_of0 cx h4) hs ha
theorem sw_stmt0 {t e : Expr} {n : Nat} {env : PySem.Env} (h : isComp e = false) : swapsWithSole [t] e n env = pure false := sw_any h
structure OkX (k : Kc) (n : Nat) : Prop where
  X : ∀ {sc : Scope} {m : ME} {e : Expr} {c : Cf} {wx : WX} {X : Cx}, chkX k n sc m e = true → c.P = k.P → Ctx0 c k.T k.N sc X → PE X e (tE c wx m)
  Xs : ∀ {sc : Scope} {m : List MA} {e : List Expr} {c : Cf} {wx : WX} {X : Cx}, chkXs k n sc m e = true → c.P = k.P → Ctx0 c k.T k.N sc X → PA X e (tAs c wx m)
theorem okX_step (o : OkX k n) (hP : c.P = k.P) (cx : Ctx0 c k.T k.N sc X) {m : ME} {e : Expr} (h : chkX k (n + 1) sc m e = true) : PE X e (tE c wx m) := by
  unfold chkX at h
  split at h
  · split at h
    · exact lit_ok h
    · cases h
  · split at h
    · rename_i i _ x p
      simp only [Bool.and_eq_true, decide_eq_true_eq] at h
      obtain ⟨⟨h1, h2⟩, h3⟩ := h
      simp only [okV, Bool.and_eq_true, Bool.not_eq_true'] at h3
      exact tE_var (pe_var (by rw [cx.names]; exact h1) (vis_of0 cx h2) h3.1 h3.2)
    · cases h
  · split at h
    · simp only [Bool.and_eq_true, decide_eq_true_eq, Bool.not_eq_true'] at h
      obtain ⟨⟨rfl, h1⟩, h2⟩ := h
      exact tE_xfld cx (o.X h1 hP cx) h2
    · cases h
  · split at h
    · simp only [Bool.and_eq_true, decide_eq_true_eq, Bool.not_eq_true'] at h
      obtain ⟨⟨⟨rfl, h1⟩, h2⟩, h3⟩ := h
      exact tE_cmpp cx (o.X h1 hP cx) (o.X h2 hP cx) h3
    · cases h
  · split at h
    · exact tE_of_tF (tF_lst (o.Xs h hP cx))
    · cases h
  · split at h
    · exact tE_box (tF_lst (o.Xs h hP cx))
    · cases h
  · split at h
    · simp only [Bool.and_eq_true, decide_eq_true_eq, Bool.not_eq_true'] at h
      obtain ⟨⟨⟨⟨⟨rfl, rfl⟩, h1⟩, h2⟩, h3⟩, h4⟩ := h
      exact tE_biV cx biRepr (cr_repr cx.K cx.quiet cx.units cx.stat.sys) (fun _ _ => rfl) (by decide +kernel) (by simpa using h1) (gl_of0 cx h2) (by decide +kernel) h3 rfl (tA_cons h3 (o.X h4 hP cx) tA_nil)
    · cases h
  · split at h
    · simp only [Bool.and_eq_true, decide_eq_true_eq, Bool.not_eq_true'] at h
      obtain ⟨⟨⟨⟨⟨⟨rfl, rfl⟩, h1⟩, h2⟩, h3⟩, h4⟩, h5⟩ := h
      exact tE_bmG cx PySem.F.plainAttrs_list PySem.F.slot_list_append PySem.F.type_list_append mtM_append (ty_list fun _ _ => rfl) (o.X h1 hP cx) (tA_cons h3 (o.X h5 hP cx) tA_nil) h2 h3 rfl (by simp) h4
    · cases h
  · split at h
    · simp only [Bool.and_eq_true, decide_eq_true_eq, Bool.not_eq_true'] at h
      obtain ⟨⟨⟨⟨⟨⟨⟨⟨rfl, h1⟩, rfl⟩, h2⟩, h3⟩, h4⟩, h5⟩, h6⟩, h7⟩ := h
      exact isi_ok0 cx h1 h2 h3 h4 h5 h6 (o.X h7 hP cx)
    · cases h
  · cases h
theorem okX_all (k : Kc) : ∀ n, OkX k n := by
  intro n
  induction n with
  | zero =>
    refine ⟨?_, ?_⟩
    · intro sc m e c wx X h; unfold chkX at h; cases h
    · intro sc m e c wx X h; unfold chkXs at h; cases h
  | succ n ih =>
    refine ⟨fun h hP cx => okX_step ih hP cx h, ?_⟩
    intro sc m e c wx X h hP cx
    unfold chkXs at h
    split at h
    · exact tAs_nil
    · simp only [Bool.and_eq_true, Bool.not_eq_true'] at h
      exact tAs_cons h.1.1 (ih.X h.1.2 hP cx) (ih.Xs h.2 hP cx)
    · cases h
structure OkXS (k : Kc) (n : Nat) : Prop where
  S : ∀ {sc : Scope} {m : MS} {s : Stmt} {c : Cf} {wx : WX} {X : Cx}, chkXS k n sc m s = true → c.P = k.P → Ctx0 c k.T k.N sc X → PS X s (tS c wx m)
  Ss : ∀ {sc : Scope} {m : List MS} {s : List Stmt} {c : Cf} {wx : WX} {X : Cx}, chkXSs k n sc m s = true → c.P = k.P → Ctx0 c k.T k.N sc X → PSs X s (tSs c wx m)
theorem okXS_step (o : OkXS k n) (hP : c.P = k.P) (cx : Ctx0 c k.T k.N sc X) {m : MS} {s : Stmt} (h : chkXS k (n + 1) sc m s = true) : PS X s (tS c wx m) := by
  have ox := okX_all k n
  unfold chkXS at h
  split at h
  · split at h
    · simp only [Bool.and_eq_true, decide_eq_true_eq, Bool.not_eq_true'] at h
      obtain ⟨⟨⟨h1, h2⟩, h3⟩, h4⟩ := h
      rename_i i y py e pos
      have hl : sc.names.lookup y = some .local := by simpa [lclB] using h2
      have hsw : swapsWithSole [.Name y py] e pos.line X.env = pure false := sw_stmt0 h3
      exact tS_asg (mt := .var _) (ox.X h4 hP cx) (tG_var cx h1 (.inl hl) (.inr hl)) hsw (by cases e <;> rfl) rfl
    · cases h
  · split at h
    · simp only [Bool.and_eq_true, Bool.not_eq_true'] at h
      exact tS_expr (ox.X h.1 hP cx) (sw_none h.2)
    · cases h
  · split at h
    · exact tS_ret (ox.X h hP cx)
    · cases h
  · split at h
    · simp only [Bool.and_eq_true] at h
      exact tS_if (tT_of cx.K (ox.X h.1.1.2 hP cx) h.1.1.1) (o.Ss h.1.2 hP cx) (o.Ss h.2 hP cx)
    · cases h
  · cases h
theorem okXS_all (k : Kc) : ∀ n, OkXS k n := by
  intro n
  induction n with
  | zero =>
    refine ⟨?_, ?_⟩
    · intro sc m e c wx X h; unfold chkXS at h; cases h
    · intro sc m e c wx X h; unfold chkXSs at h; cases h
  | succ n ih =>
    refine ⟨fun h hP cx => okXS_step ih hP cx h, ?_⟩
    intro sc m e c wx X h hP cx
    unfold chkXSs at h
    split at h
    · exact tSs_nil
    · simp only [Bool.and_eq_true] at h
      exact tSs_cons (ih.S h.1 hP cx) (ih.Ss h.2 hP cx)
    · cases h
theorem okHs (hP : c.P = k.P) (cx : Ctx c k.T k.N sc wx X) : ∀ {mhs : List MH} {hds : List ExceptHandler}, chkHs k n sc mhs hds = true → ∃ l, HdM c X hds mhs l
  | [], [], _ => ⟨[], .nil⟩
  | [], _ :: _, h => by simp [chkHs] at h
  | mh :: mhs, hds, h => by
    unfold chkHs at h
    split at h
    · cases ‹_ :: _ = []›
    · rename_i x oi ms mhs x' p on b suite p' hds e1
      cases e1
      simp only [Bool.and_eq_true, decide_eq_true_eq] at h
      obtain ⟨⟨⟨⟨⟨⟨rfl, h1⟩, h2⟩, h3⟩, h4⟩, h5⟩, h6⟩ := h
      obtain ⟨l, hl⟩ := okHs hP cx h6
      obtain ⟨D, hD, hex⟩ := cx.stat.exm x (by simpa using h1)
      have hnm : Names X x (.ref D) := ⟨gl_of cx h2, okN_d h3, .inl (cx.mg ▸ hD)⟩
      have hsu : ∀ (a : Addr) (pn : List (Addr × Obj)), PSs (X.suite a pn) (b :: suite) (tSs c NoX ms) := fun a pn => (okXS_all k n).Ss h5 hP (cx.suite a pn)
      refine ⟨(.ref D, oi, tSs c NoX ms) :: l, .cons (fun n d C h1 h2 => (hex n d C h1 h2).1) (fun {hds l} hv => ?_) hl⟩
      cases oi with
      | none =>
        cases on with
        | none => exact .plain hnm hsu hv
        | some y => cases h4
      | some i =>
        cases on with
        | none => cases h4
        | some y =>
          simp only [Bool.and_eq_true, decide_eq_true_eq] at h4
          exact .named hnm (by rw [cx.names]; exact h4.1) (by
            show X.env.scope.names.lookup y = _
            rw [cx.scope]; simpa [lclB] using h4.2) hsu hv
    · cases h
end
end Mi
/-! Mini, part Z2: the checker is sound, expressions; statements. -/
set_option autoImplicit false
set_option linter.all false
namespace Mi
open PySem L2
section
variable {k : Kc} {n : Nat} {sc : Scope} {c : Cf} {wx : WX} {X : Cx}
theorem chkEs_len : ∀ {j : Nat} {ms : List ME} {es : List Expr}, chkEs k j sc ms es = true → ms.length = es.length := by
  intro j
  induction j with
  | zero => intro ms es h; cases h
  | succ j ih =>
    intro ms es h
    unfold chkEs at h
    split at h
    · rfl
    · simp only [Bool.and_eq_true] at h
      simp [ih h.2]
    · cases h
theorem kwNames_len : ∀ {kws : List Keyword} {ks : List Str}, kwNames kws = some ks → ks.length = kws.length
  | [], ks, h => by cases h; rfl
  | ⟨none, _, _⟩ :: r, ks, h => by cases h
  | ⟨some n, e, kp⟩ :: r, ks, h => by
    obtain ⟨ks', hk, rfl⟩ := Option.map_eq_some_iff.mp h
    simp [kwNames_len hk]
theorem bi_ok (cx : Ctx c k.T k.N sc wx X) {b : Str} {e : Expr} {es : List Expr} {p pos : Pos} {ms : List ME} (hb : biVal.contains b = true) (h1 : k.T.frees.contains b = true) (h2 : glB sc b = true) (h3 : noStars (e :: es) = true) (ha : PA X (e :: es) (tA c wx ms)) : PE X (.Call (.Name b p) (e :: es) [] pos) (tE c wx (.bi b ms)) := by
  have hs1 : isStar e = false := by simpa using (List.all_eq_true.mp h3 e (List.mem_cons_self ..))
  have hs2 : es.all (fun e => !isStar e) = true := by
    simp only [noStars, List.all_cons, Bool.and_eq_true] at h3; exact h3.2
  have hfr : b ∈ k.T.frees := by simpa using h1
  have hg := gl_of cx h2
  have hb : b = "len" ∨ b = "all" ∨ b = "any" ∨ b = "sum" ∨ b = "repr" := by simpa [biVal] using hb
  rcases hb with rfl | rfl | rfl | rfl | rfl
  · exact tE_biV cx.c0 biLen (cr_len cx.K) (fun _ _ => rfl) (by decide +kernel) hfr hg (by decide +kernel) hs1 hs2 ha
  · exact tE_biV cx.c0 biAll (cr_allM cx.K cx.calm) (fun _ _ => rfl) (by decide +kernel) hfr hg (by decide +kernel) hs1 hs2 ha
  · exact tE_biV cx.c0 biAny (cr_anyM cx.K cx.calm) (fun _ _ => rfl) (by decide +kernel) hfr hg (by decide +kernel) hs1 hs2 ha
  · exact tE_biV cx.c0 biSum (cr_sumM cx.K cx.calm) (fun _ _ => rfl) (by decide +kernel) hfr hg (by decide +kernel) hs1 hs2 ha
  · exact tE_biV cx.c0 biRepr (cr_repr cx.K cx.quiet cx.units cx.stat.sys) (fun _ _ => rfl) (by decide +kernel) hfr hg (by decide +kernel) hs1 hs2 ha
theorem isi_ok (cx : Ctx c k.T k.N sc wx X) {t : String} {a : Expr} {p p2 pos : Pos} {m : ME} (ht : ["bool", "int", "str", "tuple", "list", "dict"].contains t = true) (h1 : k.T.frees.contains (Str.ofString t) = true) (h2 : glB sc (Str.ofString t) = true) (h3 : k.T.frees.contains (Str.ofString "isinstance") = true) (h4 : glB sc (Str.ofString "isinstance") = true) (hs : isStar a = false) (ha : PE X a (tE c wx m)) : PE X (.Call (.Name (Str.ofString "isinstance") p) [a, .Name (Str.ofString t) p2] [] pos) (tE c wx (.isinst m t)) := by
  have hm : t ∈ ["bool", "int", "str", "tuple", "list", "dict"] := by simpa using ht
  have hv : bootBuiltins (Str.ofString t) = some (.type t) ∧ okN (Str.ofString t) = true := by
    simp only [List.mem_cons, List.mem_nil_iff, or_false] at hm
    rcases hm with rfl | rfl | rfl | rfl | rfl | rfl <;> exact ⟨by decide +kernel, by decide +kernel⟩
  exact tE_isinst cx.c0 hm hv.1 (by simpa using h1) (gl_of cx h2) hv.2 (by simpa using h3) (gl_of cx h4) hs ha
theorem okE (ok : ∀ j, j ≤ n → OkN k j) (hP : c.P = k.P) (cx : Ctx c k.T k.N sc wx X) {m : ME} {e : Expr} (h : chkE k (n + 1) sc m e = true) : PE X e (tE c wx m) := by
  have o := ok n (Nat.le_refl _)
  cases m with
  | bad => exact tE_bad
  | lit v =>
    unfold chkE at h
    dsimp only at h
    split at h
    · exact lit_ok h
    · cases h
  | glo x v =>
    unfold chkE at h
    dsimp only at h
    split at h
    · simp only [Bool.and_eq_true, decide_eq_true_eq] at h
      obtain ⟨⟨⟨rfl, h1⟩, h2⟩, h3⟩ := h
      exact glo_ok' cx h1 h2 h3
    · cases h
  | var i =>
    unfold chkE at h
    dsimp only at h
    split at h
    · simp only [Bool.and_eq_true, decide_eq_true_eq] at h
      have hv := h.2
      simp only [okV, Bool.and_eq_true, Bool.not_eq_true'] at hv
      exact tE_var (pe_var (by rw [cx.names]; exact h.1.1) (vis_of cx h.1.2) hv.1 hv.2)
    · cases h
  | bin op a b =>
    unfold chkE at h
    dsimp only at h
    split at h
    · simp only [Bool.and_eq_true, decide_eq_true_eq] at h
      obtain ⟨⟨rfl, h1⟩, h2⟩ := h
      exact tE_bin cx.K (o.E h1 hP cx) (o.E h2 hP cx)
    · cases h
  | neg a =>
    unfold chkE at h
    dsimp only at h
    split at h
    · exact tE_neg (o.E h hP cx)
    · cases h
  | notE a =>
    unfold chkE at h
    dsimp only at h
    split at h
    · exact tE_not cx.K (o.E h hP cx)
    · cases h
  | andE a b =>
    unfold chkE at h
    dsimp only at h
    split at h
    · simp only [Bool.and_eq_true] at h
      exact tE_and cx.K (o.E h.1 hP cx) (pe_one (o.E h.2 hP cx))
    · simp only [Bool.and_eq_true] at h
      exact tE_and cx.K (o.E h.1 hP cx) (o.E h.2 hP cx)
    · cases h
  | orE a b =>
    unfold chkE at h
    dsimp only at h
    split at h
    · simp only [Bool.and_eq_true] at h
      exact tE_or cx.K (o.E h.1 hP cx) (pe_one (o.E h.2 hP cx))
    · simp only [Bool.and_eq_true] at h
      exact tE_or cx.K (o.E h.1 hP cx) (o.E h.2 hP cx)
    · cases h
  | cmp op a b =>
    unfold chkE at h
    dsimp only at h
    split at h
    · simp only [Bool.and_eq_true, decide_eq_true_eq, Bool.not_eq_true'] at h
      obtain ⟨⟨⟨rfl, h1⟩, h2⟩, h3⟩ := h
      exact tE_cmp cx (o.E h1 hP cx) (o.E h2 hP cx) h3
    · cases h
  | cmp2 op1 op2 a b d =>
    unfold chkE at h
    dsimp only at h
    split at h
    · simp only [Bool.and_eq_true, decide_eq_true_eq, Bool.not_eq_true'] at h
      obtain ⟨⟨⟨⟨⟨⟨rfl, rfl⟩, h1⟩, h2⟩, h3⟩, h4⟩, h5⟩ := h
      exact tE_cmp2 cx (o.E h1 hP cx) (o.E h2 hP cx) (o.E h3 hP cx) h4 h5
    · cases h
  | ifE t a b =>
    unfold chkE at h
    dsimp only at h
    split at h
    · simp only [Bool.and_eq_true] at h
      exact tE_ifE (o.T h.1.1 hP cx) (o.E h.1.2 hP cx) (o.E h.2 hP cx)
    · cases h
  | tupE ms =>
    unfold chkE at h
    dsimp only at h
    split at h
    · exact tE_tup (o.As h hP cx)
    · cases h
  | lstE ms => unfold chkE at h; exact tE_of_tF (o.F h hP cx)
  | dctE ps => unfold chkE at h; exact tE_of_tF (o.F h hP cx)
  | lvals a => unfold chkE at h; exact tE_of_tF (o.F h hP cx)
  | lcomp a tg it cs => unfold chkE at h; exact tE_of_tF (o.F h hP cx)
  | box a => unfold chkE at h; exact tE_box (o.F h hP cx)
  | idx a b =>
    unfold chkE at h
    dsimp only at h
    split at h
    · simp only [Bool.and_eq_true] at h
      exact tE_idx cx (o.E h.1.1 hP cx) (o.E h.1.2 hP cx) h.2
    · cases h
  | fld a f =>
    unfold chkE at h
    dsimp only at h
    split at h
    · simp only [Bool.and_eq_true, decide_eq_true_eq, Bool.not_eq_true'] at h
      obtain ⟨⟨rfl, h1⟩, h2⟩ := h
      exact tE_fld cx (o.E h1 hP cx) h2
    · cases h
  | call f ms =>
    unfold chkE at h
    dsimp only at h
    split at h
    · simp only [Bool.and_eq_true, decide_eq_true_eq] at h
      obtain ⟨⟨⟨⟨⟨rfl, h1⟩, h2⟩, h3⟩, h4⟩, h5⟩ := h
      have ha := o.Es h5 h4 hP cx
      simp only [noStars, List.all_cons, Bool.and_eq_true, Bool.not_eq_true'] at h4
      exact tE_call cx (by simpa using h1) (gl_of cx h2) h3 h4.1 h4.2 ha
    · cases h
  | callK f ms how =>
    unfold chkE at h
    dsimp only at h
    split at h
    · rename_i f' p es kws pos
      split at h
      · rename_i ks hk
        simp only [Bool.and_eq_true, decide_eq_true_eq] at h
        obtain ⟨⟨⟨⟨⟨⟨⟨⟨rfl, h1⟩, h2⟩, h3⟩, h4⟩, h5⟩, h6⟩, h7⟩, h8⟩ := h
        have l1 := chkEs_len h7
        have l2 := chkEs_len h8
        have := tE_callK (c := c) (wx := wx) cx (f := f) (es := es) (kws := kws) (p := p) (pos := pos) (ks := ks) (how := how) (by simpa using h1) (by simpa using h2) (gl_of cx h3) h4 h5 hk l1.symm (by rw [kwNames_len hk, l2]; simp) (o.Es h7 h5 hP cx) (o.Ks h8 hP cx)
        rw [List.take_append_drop] at this
        exact this
      · cases h
    · cases h
  | newK f ms how =>
    unfold chkE at h
    dsimp only at h
    split at h
    · rename_i f' p es kws pos
      split at h
      · rename_i ks d hk hd
        split at h
        · rename_i g hg
          simp only [Bool.and_eq_true, decide_eq_true_eq] at h
          obtain ⟨⟨⟨⟨⟨⟨⟨rfl, h1⟩, h3⟩, h4⟩, h5⟩, h6⟩, h7⟩, h8⟩ := h
          have l1 := chkEs_len h7
          have l2 := chkEs_len h8
          have := tE_newK (c := c) (wx := wx) cx (cn := f) (es := es) (kws := kws) (p := p) (pos := pos) (ks := ks) (how := how) (hP ▸ hd) hg (by simpa using h1) (gl_of cx h3) h4 h5 hk l1.symm (by rw [kwNames_len hk, l2]; simp) (o.Es h7 h5 hP cx) (o.Ks h8 hP cx)
          rw [List.take_append_drop] at this
          exact this
        · cases h
      · cases h
    · cases h
  | methK ob mn ms how =>
    unfold chkE at h
    dsimp only at h
    split at h
    · rename_i o' m' apos es kws pos
      split at h
      · rename_i ks hk
        simp only [Bool.and_eq_true, decide_eq_true_eq, Bool.not_eq_true'] at h
        obtain ⟨⟨⟨⟨⟨⟨⟨⟨⟨rfl, h1⟩, h2⟩, h3⟩, h4⟩, h5⟩, h6⟩, h7⟩, h8⟩, h9⟩ := h
        have l1 := chkEs_len h8
        have l2 := chkEs_len h9
        have := tE_methK (c := c) (wx := wx) cx (m := mn) (es := es) (kws := kws) (apos := apos) (pos := pos) (ks := ks) (how := how) (fun cn d f hd hf => by
          rw [hP] at hd
          have hmem : d ∈ k.P.cls := List.mem_of_find?_eq_some hd
          have := List.all_eq_true.mp h3 d hmem
          rw [hf] at this
          simpa using this) (o.E h1 hP cx) h2 h4 hk h5 h6 l1.symm (by rw [kwNames_len hk, l2]; simp) (o.Es h8 h4 hP cx) (o.Ks h9 hP cx)
        rw [List.take_append_drop] at this
        exact this
      · cases h
    · cases h
  | meth ob mn ms =>
    unfold chkE at h
    dsimp only at h
    split at h
    · simp only [Bool.and_eq_true, decide_eq_true_eq, Bool.not_eq_true'] at h
      obtain ⟨⟨⟨⟨⟨⟨rfl, h1⟩, h2⟩, h3⟩, h4⟩, h5⟩, h6⟩ := h
      exact tE_meth cx (o.E h1 hP cx) h2 h3 h4 h5 (o.Es h6 h3 hP cx)
    · cases h
  | bm ob b ms =>
    unfold chkE at h
    dsimp only at h
    split at h
    · split at h
      · rename_i nm j ht
        simp only [Bool.and_eq_true, decide_eq_true_eq, Bool.not_eq_true'] at h
        obtain ⟨⟨⟨⟨⟨⟨⟨rfl, h1⟩, h2⟩, h3⟩, h4⟩, h5⟩, h6⟩, h7⟩ := h
        refine bm_ok cx ht (o.E h1 hP cx) h2 h3 h4 h5 h6 (o.Es h7 h3 hP cx) fun e m he hm => ?_
        subst he; subst hm
        cases n with
        | zero => cases h7
        | succ j' =>
          unfold chkEs at h7
          simp only [Bool.and_eq_true] at h7
          exact (ok j' (Nat.le_succ _)).E h7.1 hP cx
      · cases h
    · cases h
  | new f ms =>
    unfold chkE at h
    dsimp only at h
    split at h
    · split at h
      · rename_i d hd
        simp only [Bool.and_eq_true, decide_eq_true_eq] at h
        obtain ⟨⟨⟨⟨⟨h1, rfl⟩, h2⟩, h3⟩, h4⟩, h5⟩ := h
        have ha := o.Es h5 h4 hP cx
        obtain ⟨g, hg⟩ := Option.isSome_iff_exists.mp h1
        simp only [noStars, List.all_cons, Bool.and_eq_true, Bool.not_eq_true'] at h4
        exact tE_new cx (hP ▸ hd) hg (gl_of cx h2) h3 h4.1 h4.2 ha
      · cases h
    · cases h
  | bi b ms =>
    unfold chkE at h
    dsimp only at h
    split at h
    · rename_i hb
      split at h
      · simp only [Bool.and_eq_true, decide_eq_true_eq] at h
        obtain ⟨⟨⟨⟨rfl, h1⟩, h2⟩, h3⟩, h4⟩ := h
        exact bi_ok cx hb h1 h2 h3 (o.Es h4 h3 hP cx)
      · cases h
    · exact tE_of_tF (o.F h hP cx)
  | isinst a t =>
    unfold chkE at h
    dsimp only at h
    split at h
    · simp only [Bool.and_eq_true, decide_eq_true_eq, Bool.not_eq_true'] at h
      obtain ⟨⟨⟨⟨⟨⟨⟨⟨rfl, h1⟩, rfl⟩, h2⟩, h3⟩, h4⟩, h5⟩, h6⟩, h7⟩ := h
      exact isi_ok cx h1 h2 h3 h4 h5 h6 (o.E h7 hP cx)
    · cases h
  | cmpp op a b =>
    unfold chkE at h
    dsimp only at h
    split at h
    · simp only [Bool.and_eq_true, decide_eq_true_eq, Bool.not_eq_true'] at h
      obtain ⟨⟨⟨rfl, h1⟩, h2⟩, h3⟩ := h
      exact tE_cmpp cx.c0 (o.E h1 hP cx) (o.E h2 hP cx) h3
    · cases h
  | xfld a f =>
    unfold chkE at h
    dsimp only at h
    split at h
    · simp only [Bool.and_eq_true, decide_eq_true_eq, Bool.not_eq_true'] at h
      obtain ⟨⟨rfl, h1⟩, h2⟩ := h
      exact tE_xfld cx.c0 (o.E h1 hP cx) h2
    · cases h
  | xis a t =>
    unfold chkE at h
    dsimp only at h
    split at h
    · simp only [Bool.and_eq_true, decide_eq_true_eq, Bool.not_eq_true'] at h
      obtain ⟨⟨⟨⟨⟨⟨⟨⟨rfl, rfl⟩, h1⟩, h2⟩, h3⟩, h4⟩, h5⟩, h6⟩, h7⟩ := h
      exact tE_xis cx.c0 (by simpa using h1) h3 (gl_of cx h2) (by simpa using h4) (gl_of cx h5) h6 (o.E h7 hP cx)
    · cases h
  | xisV a =>
    unfold chkE at h
    dsimp only at h
    split at h
    · simp only [Bool.and_eq_true, decide_eq_true_eq, Bool.not_eq_true'] at h
      obtain ⟨⟨⟨⟨⟨⟨⟨rfl, rfl⟩, h1⟩, h2⟩, h3⟩, h4⟩, h5⟩, h6⟩ := h
      exact tE_xisV cx.c0 (by simpa using h1) (gl_of cx h2) (by simpa using h3) (gl_of cx h4) h5 (o.E h6 hP cx)
    · cases h
  | newX f ms how =>
    unfold chkE at h
    dsimp only at h
    split at h
    · rename_i f' p es kws pos
      split at h
      · rename_i ks hk
        simp only [Bool.and_eq_true, decide_eq_true_eq] at h
        obtain ⟨⟨⟨⟨⟨⟨⟨⟨⟨rfl, h1⟩, h2⟩, h3⟩, h4⟩, h5⟩, h0⟩, h6⟩, h7⟩, h8⟩ := h
        have l1 := chkEs_len h7
        have l2 := chkEs_len h8
        have := tE_newX (c := c) (wx := wx) cx (cn := f) (es := es) (kws := kws) (p := p) (pos := pos) (ks := ks) (how := how) (hP ▸ h1) (by simpa using h2) (gl_of cx h3) h4 h5 hk h0 l1.symm (by rw [kwNames_len hk, l2]; simp) (o.Es h7 h5 hP cx) (o.Ks h8 hP cx)
        rw [List.take_append_drop] at this
        exact this
      · cases h
    · cases h
  | lrng a b => unfold chkE at h; exact tE_of_tF (o.F h hP cx)
  | frzE a => exact tE_frzE (o.E h hP cx)
  | lock i a => exact tE_lock (o.E h hP cx)
  | lenO a =>
    simp only [chkE] at h
    split at h
    · simp only [Bool.and_eq_true, decide_eq_true_eq, Bool.not_eq_true'] at h
      obtain ⟨⟨⟨⟨h1, h2⟩, h3⟩, h4⟩, h5⟩ := h
      subst h1
      exact tE_lenO cx (by simpa using h2) (gl_of cx h3) h4 (o.E h5 hP cx)
    · cases h
  | isown a t =>
    unfold chkE at h
    dsimp only at h
    split at h
    · simp only [Bool.and_eq_true, decide_eq_true_eq, Bool.not_eq_true'] at h
      obtain ⟨⟨⟨⟨⟨⟨⟨⟨rfl, rfl⟩, h2⟩, h3⟩, h4⟩, h5⟩, h6⟩, h7⟩, h8⟩ := h
      exact tE_isown cx (gl_of cx h2) h3 (hP ▸ h4) (by simpa using h5) (gl_of cx h6) h7 (o.E h8 hP cx)
    · cases h
  | _ => unfold chkE at h; cases h
end
theorem okN_all (k : Kc) : ∀ n, OkN k n := by
  intro n
  induction n using Nat.strongRecOn with
  | ind n ih =>
    cases n with
    | zero =>
      refine ⟨?_, ?_, ?_, ?_, ?_, ?_, ?_, ?_, ?_, ?_, ?_, ?_⟩
      · intro sc m e c wx X h; unfold chkE at h; cases h
      · intro sc m e c wx X h; unfold chkF at h; cases h
      · intro sc m e c wx X h; unfold chkEs at h; cases h
      · intro sc m e c wx X h; unfold chkEs at h; cases h
      · intro sc m e c wx X h; unfold chkAs at h; cases h
      · intro sc m ks vs pos c wx X h; unfold chkPs at h; cases h
      · intro sc m e c wx X h; unfold chkT at h; cases h
      · intro sc m e pos op c wx X h; unfold chkW at h; cases h
      · intro sc m e c wx X h; unfold chkCs at h; cases h
      · intro sc m tg e c wx X h; unfold chkI at h; cases h
      · intro sc fn m e c wx X h; unfold chkG at h; cases h
      · intro sc fn m e c wx X h; unfold chkGs at h; cases h
    | succ n =>
      have ok : ∀ j, j ≤ n → OkN k j := fun j hj => ih j (Nat.lt_succ_of_le hj)
      exact ⟨fun h hP cx => okE ok hP cx h, fun h hP cx => okF ok hP cx h, fun h hs hP cx => okEs ok hP cx h hs, fun h hP cx => okKs ok hP cx h, fun h hP cx => okAs ok hP cx h, fun h hP cx => okPs ok hP cx h, fun h hP cx => okT ok hP cx h, fun h hP cx => okW ok hP cx h, fun h hP cx => okCs ok hP cx h, fun h hP cx => okI ok hP cx h, fun h hf hP cx => okG ok hP cx h hf, fun h hf hP cx => okGs ok hP cx h hf⟩

/-! ### statements -/
structure OkS (k : Kc) (n : Nat) : Prop where
  S : ∀ {sc : Scope} {m : MS} {s : Stmt} {c : Cf} {wx : WX} {X : Cx}, chkS k n sc m s = true → c.P = k.P → Ctx c k.T k.N sc wx X → FnCx wx X → PS X s (tS c wx m)
  Ss : ∀ {sc : Scope} {m : List MS} {s : List Stmt} {c : Cf} {wx : WX} {X : Cx}, chkSs k n sc m s = true → c.P = k.P → Ctx c k.T k.N sc wx X → FnCx wx X → PSs X s (tSs c wx m)
section
variable {k : Kc} {n : Nat} {sc : Scope} {c : Cf} {wx : WX} {X : Cx}
theorem asgName (cx : Ctx c k.T k.N sc wx X) (hP : c.P = k.P) {i : Nat} {a : ME} {y : Str} {py pos : Pos} {e : Expr} (h1 : k.N[i]? = some y) (h2 : locB sc y = true) (h3 : chkE k n sc a e = true) (hf : ∀ x, X.fn x = true) (hsw : swapsWith e (some (.Name y py)) pos.line X.env = pure false) : PS X (.Assign [.Name y py] e pos) (tS c wx (.asg (.var i) a)) :=
  tS_asg (mt := .var i) ((okN_all k n).E h3 hP cx) (tG_var cx.c0 h1 (loc_of h2) (.inl (hf y))) hsw (by cases e <;> rfl) rfl
theorem lcF {m : ME} {elt : Expr} {gs : List Comprehension} {scope : Scope} {pos : Pos} (h : chkF k n sc m (.ListComp elt gs scope pos) = true) : ∃ j me tg it cs tg' it' cs', n = j + 1 ∧ m = .lcomp me tg it cs ∧ gs = [⟨tg', it', cs', 0⟩] ∧ (chkI k j sc it it' && blkC k.N sc scope ((tgVars tg).map fun i => (k.N.getD i Str.empty, i)) && !isSet it' && chkG k j (relS scope sc) false tg tg' && chkCs k j (relS scope sc) cs cs' && chkE k j (relS scope sc) me elt) = true := by
  cases n with
  | zero => unfold chkF at h; cases h
  | succ j =>
    unfold chkF at h
    split at h
    · cases h
    · cases h
    · cases h
    · split at h
      · rename_i e1 e2
        cases e2
        exact ⟨j, _, _, _, _, _, _, _, rfl, rfl, rfl, h⟩
      · cases h
    all_goals cases h

theorem setLc_ok (cx : Ctx c k.T k.N sc wx X) (hP : c.P = k.P) {i : Nat} {m : ME} {y : Str} {py pos p : Pos} {elt : Expr} {gs : List Comprehension} {scope : Scope} (h1 : k.N[i]? = some y) (h2 : lclB sc y = true) (h3 : chkF k n sc m (.ListComp elt gs scope p) = true) (hsw : swcB (.ListComp elt gs scope p) y py sc = true) : PS X (.Assign [.Name y py] (.ListComp elt gs scope p) pos) (asgNew c wx i m) := by
  obtain ⟨j, me, tg, it, cs, tg', it', cs', rfl, rfl, rfl, h⟩ := lcF h3
  obtain ⟨p1, p2, p3, p4, p5, p6, p7⟩ := lc_parts (n := j) (fun i _ => okN_all k i) cx hP h
  exact tS_setLc cx h1 (by simpa [lclB] using h2) (swc_ok (by rw [cx.scope]; exact hsw)) p1 p2 p3 p4 p5 p6 p7
theorem sw_stmt {t e : Expr} {n : Nat} {env : PySem.Env} (h : isComp e = false) : swapsWithSole [t] e n env = pure false := sw_any h
theorem okS_asg (hP : c.P = k.P) (cx : Ctx c k.T k.N sc wx X) (hf : FnCx wx X) {t : MT} {a : ME} {s : Stmt} (h : chkS k (n + 1) sc (.asg t a) s = true) : PS X s (tS c wx (.asg t a)) := by
  have o := okN_all k n
  unfold chkS at h
  dsimp only at h
  split at h
  · -- o.f = e
    split at h
    · simp only [Bool.and_eq_true, decide_eq_true_eq, Bool.not_eq_true'] at h
      obtain ⟨⟨⟨rfl, h1⟩, h2⟩, h3⟩ := h
      exact tS_fld cx (o.E h1 hP cx) (o.E h2 hP cx) (sw_any h3)
    · cases h
  · rename_i y py e pos
    split at h
    · rename_i i
      split at h
      · rename_i hc
        split at h
        · rename_i elt gs scope p
          split at h
          · rename_i hsw
            simp only [Bool.and_eq_true, decide_eq_true_eq] at h
            obtain ⟨⟨h1, h2⟩, h3⟩ := h
            split at h3
            · exact PS.imp (setLc_ok cx hP h1 h2 h3 hsw) fun D σ H hh => asgNew_box hh
            · exact PS.imp (setLc_ok cx hP h1 h2 h3 hsw) fun D σ H hh => asgNew_plain hh
          · rename_i hsw
            simp only [Bool.and_eq_true, decide_eq_true_eq] at h
            obtain ⟨⟨h1, h2⟩, h3⟩ := h
            exact asgName cx hP h1 h2 h3 hf.fn (swc_ok (by rw [cx.scope]; simpa using hsw))
        · cases h
      · rename_i hc
        simp only [Bool.and_eq_true, decide_eq_true_eq] at h
        obtain ⟨⟨h1, h2⟩, h3⟩ := h
        exact asgName cx hP h1 h2 h3 hf.fn (sw_any (by simpa using hc))
    · cases h
  · simp only [Bool.and_eq_true, Bool.not_eq_true'] at h
    obtain ⟨⟨h1, h2⟩, h3⟩ := h
    exact tS_asg (o.E h2 hP cx) (o.G h1 (fun _ => hf.fn) hP cx) (sw_stmt h3) rfl rfl
  · rename_i es k1 p e pos
    split at h
    · rename_i hs
      simp only [Bool.and_eq_true, Bool.not_eq_true'] at h
      obtain ⟨⟨h1, h2⟩, h3⟩ := h
      exact tS_asg (o.E h2 hP cx) (o.G h1 (fun _ => hf.fn) hP cx) (sw_stmt h3) (swS_ok (by rw [cx.scope]; exact hs)) rfl
    · split at h
      · simp only [Bool.and_eq_true, decide_eq_true_eq] at h
        obtain ⟨⟨⟨⟨⟨⟨h1, h2⟩, h3⟩, h4⟩, h5⟩, h6⟩, h7⟩ := h
        exact tS_par2 cx h1 h2 h3 (by simpa [lclB] using h4) (by simpa [lclB] using h5) (swS_ok (by rw [cx.scope]; exact h6)) (o.As h7 hP cx)
      · simp only [Bool.and_eq_true, decide_eq_true_eq] at h
        obtain ⟨⟨⟨⟨⟨⟨⟨⟨⟨⟨h1, h2⟩, h3⟩, h4⟩, h5⟩, h6⟩, h7⟩, h8⟩, h9⟩, h10⟩, h11⟩ := h
        exact tS_par3 cx h1 h2 h3 h4 h5 h6 (by simpa [lclB] using h7) (by simpa [lclB] using h8) (by simpa [lclB] using h9) (swS_ok (by rw [cx.scope]; exact h10)) (o.As h11 hP cx)
      · cases h
    · cases h
  · cases h
theorem okS_ (ih : OkS k n) (hP : c.P = k.P) (cx : Ctx c k.T k.N sc wx X) (hf : FnCx wx X) {m : MS} {s : Stmt} (h : chkS k (n + 1) sc m s = true) : PS X s (tS c wx m) := by
  have o := okN_all k n
  cases m with
  | bad => exact tS_bad
  | asg t a => exact okS_asg hP cx hf h
  | pass =>
    unfold chkS at h
    dsimp only at h
    split at h
    · exact tS_pass
    · cases h
  | brk =>
    unfold chkS at h
    dsimp only at h
    split at h
    · exact tS_brk
    · cases h
  | cnt =>
    unfold chkS at h
    dsimp only at h
    split at h
    · exact tS_cnt
    · cases h
  | expr a =>
    unfold chkS at h
    dsimp only at h
    split at h
    · simp only [Bool.and_eq_true, Bool.not_eq_true'] at h
      exact tS_expr (o.E h.1 hP cx) (sw_none h.2)
    · cases h
  | ret a =>
    unfold chkS at h
    dsimp only at h
    split at h
    · exact tS_ret (o.E h hP cx)
    · split at h
      · exact tS_retN
      · cases h
    · cases h
  | ifS t a b =>
    unfold chkS at h
    dsimp only at h
    split at h
    · simp only [Bool.and_eq_true] at h
      exact tS_if (o.T h.1.1 hP cx) (ih.Ss h.1.2 hP cx hf) (ih.Ss h.2 hP cx hf)
    · cases h
  | whileS t a =>
    unfold chkS at h
    dsimp only at h
    split at h
    · simp only [Bool.and_eq_true] at h
      exact tS_while cx (o.T h.1 hP cx) (ih.Ss h.2 hP cx hf)
    · cases h
  | forS t i a =>
    unfold chkS at h
    dsimp only at h
    split at h
    · simp only [Bool.and_eq_true, Bool.not_eq_true'] at h
      obtain ⟨⟨⟨h1, h2⟩, h3⟩, h4⟩ := h
      exact tS_for cx (o.I h1 hP cx) (o.G h2 (fun _ => hf.fn) hP cx) (ih.Ss h3 hP cx hf) h4
    · cases h
  | raise x ms =>
    unfold chkS at h
    dsimp only at h
    split at h
    · simp only [Bool.and_eq_true, decide_eq_true_eq] at h
      obtain ⟨⟨⟨⟨⟨rfl, h1⟩, h2⟩, h3⟩, h4⟩, h5⟩ := h
      have ha := o.Es h5 h4 hP cx
      simp only [noStars, List.all_cons, Bool.and_eq_true, Bool.not_eq_true'] at h4
      exact tS_raise cx hf (hP ▸ h1) (gl_of cx h2) h3 h4.1 h4.2 ha
    · cases h
  | tryS a hs =>
    unfold chkS at h
    dsimp only at h
    split at h
    · simp only [Bool.and_eq_true] at h
      obtain ⟨l, hl⟩ := okHs hP cx h.2
      exact tS_try cx hf (fun W pn xe cx' hf' => ih.Ss h.1 hP cx' hf') hl
    · cases h
  | _ => unfold chkS at h; cases h
end
theorem okS_all (k : Kc) : ∀ n, OkS k n := by
  intro n
  induction n with
  | zero =>
    refine ⟨?_, ?_⟩
    · intro sc m e c wx X h; unfold chkS at h; cases h
    · intro sc m e c wx X h; unfold chkSs at h; cases h
  | succ n ih =>
    refine ⟨fun h hP cx hf => okS_ ih hP cx hf h, ?_⟩
    intro sc m e c wx X h hP cx hf
    unfold chkSs at h
    split at h
    · exact tSs_nil
    · simp only [Bool.and_eq_true] at h
      exact tSs_cons (ih.S h.1 hP cx hf) (ih.Ss h.2 hP cx hf)
    · cases h
end Mi
/-! Mini, part Z3: how arguments come to parameters. -/
set_option autoImplicit false
set_option linter.all false
namespace Mi
open PySem L2
theorem lookup_zip {ps : List Str} {us : List Value} (hl : us.length = ps.length) : ∀ n ∈ ps, ((ps.zip us).lookup n).isSome = true := by
  induction ps generalizing us with
  | nil => intro n hn; cases hn
  | cons p ps ih =>
    cases us with
    | nil => simp at hl
    | cons u us =>
      intro n hn
      rw [List.zip_cons_cons, List.lookup_cons]
      by_cases c : n = p
      · subst c; simp
      · have : (n == p) = false := by simpa using c
        rw [this]
        exact ih (by simpa using hl) n ((List.mem_cons.mp hn).resolve_left c)
theorem binds_zip {ps : List Str} {us : List Value} (nd : ps.Nodup) (hl : us.length = ps.length) : (ps.filterMap fun n => ((ps.zip us).lookup n).map (n, ·)) = ps.zip us := by
  suffices h : ∀ (qs : List Str) (ws : List Value) (as : List (Str × Value)), ws.length = qs.length → qs.Nodup → (∀ n ∈ qs, as.lookup n = none) → (qs.filterMap fun n => ((as ++ qs.zip ws).lookup n).map (n, ·)) = qs.zip ws by
    simpa using h ps us [] hl nd (by simp)
  intro qs
  induction qs with
  | nil => intros; simp
  | cons q qs ih =>
    intro ws as hl nd ha
    cases ws with
    | nil => simp at hl
    | cons w ws =>
      have hq : (as ++ (q :: qs).zip (w :: ws)).lookup q = some w := by
        rw [List.lookup_append, ha q (List.mem_cons_self ..)]
        simp
      rw [List.filterMap_cons, hq]
      simp only [Option.map_some, List.zip_cons_cons]
      congr 1
      have := ih ws (as ++ [(q, w)]) (by simpa using hl) (List.nodup_cons.mp nd).2 (fun n hn => by
        rw [List.lookup_append, ha n (List.mem_cons_of_mem _ hn)]
        have : (n == q) = false := by
          rw [beq_eq_false_iff_ne]; intro e; subst e; exact (List.nodup_cons.mp nd).1 hn
        simp [List.lookup_cons, this])
      simpa using this
theorem bind_simple {fd : FuncData} {us : List Value} (h1 : fd.params.posonlyargs = []) (h2 : fd.params.vararg = none) (h3 : fd.params.kwonlyargs = []) (h4 : fd.params.kwarg = none) (hd : fd.defaults = .none) (nd : (fd.params.args.map (·.arg)).Nodup) (hl : us.length = (fd.params.args.map (·.arg)).length) : PySem.bindArgs fd ⟨us, []⟩ = pure ((fd.params.args.map (·.arg)).zip us) := by
  unfold PySem.bindArgs
  simp only [h1, h2, h3, h4, hd]
  have e1 : (seqItems? Value.none) = pure none := rfl
  rw [e1]
  simp only [List.map_nil, List.nil_append, List.append_nil, List.forIn_nil, pure_bind, Option.getD, List.length_nil]
  have c1 : (decide (us.length > (fd.params.args.map (·.arg)).length) && (none : Option Arg).isNone) = false := by
    rw [hl]; simp
  have c2 : ∀ m, ((fd.params.args.map (·.arg)).take m).filter (fun n => (((fd.params.args.map (·.arg)).zip us).lookup n).isNone) = [] := by
    intro m
    rw [List.filter_eq_nil_iff]
    intro n hn
    have := lookup_zip hl n (List.mem_of_mem_take hn)
    cases h : ((fd.params.args.map (·.arg)).zip us).lookup n with
    | none => rw [h] at this; cases this
    | some v => simp
  rw [if_neg (by rw [c1]; simp), if_neg (by rw [c2]; simp)]
  have c3 : ∀ m, ((fd.params.args.map (·.arg)).drop m).zip (List.drop (0 - (fd.params.args.map (·.arg)).length) ([] : List Value)) = [] := by
    intro m; simp
  rw [c3]
  simp only [List.forIn_nil, pure_bind]
  rw [if_neg (by simp), binds_zip nd hl]
theorem forIn_app {f : Str × Value → List (Str × Value) × List (Str × Value) → Sem (ForInStep (List (Str × Value) × List (Str × Value)))} : ∀ (l s : List (Str × Value)), (∀ pre x suf, l = pre ++ x :: suf → f x (s ++ pre, []) = pure (.yield (s ++ pre ++ [x], []))) → forIn l (s, []) f = pure (s ++ l, [])
  | [], s, _ => by simp
  | x :: l, s, h => by
    rw [List.forIn_cons]
    have h0 := h [] x l rfl
    rw [List.append_nil] at h0
    rw [h0, pure_bind]
    dsimp only
    rw [forIn_app l (s ++ [x]) fun pre y suf e => ?_]
    · simp
    · have := h (x :: pre) y suf (by rw [e]; rfl)
      rw [show s ++ [x] ++ pre = s ++ x :: pre by simp]
      exact this
theorem zip_take : ∀ (ps : List Str) (us : List Value), ps.zip us = (ps.take us.length).zip us
  | [], us => by simp
  | p :: ps, [] => by simp
  | p :: ps, u :: us => by simp [zip_take ps us]
theorem lookup_none {l : List (Str × Value)} {k : Str} (h : k ∉ l.map (·.1)) : l.lookup k = none := by
  induction l with
  | nil => rfl
  | cons x l ih =>
    simp only [List.map_cons, List.mem_cons, not_or] at h
    rw [List.lookup_cons]
    have : (k == x.1) = false := by simpa using h.1
    rw [this]
    exact ih h.2
theorem bind_kw {fd : FuncData} {us ws : List Value} {ks ps : List Str} (hps : fd.params.args.map (·.arg) = ps) (h1 : fd.params.posonlyargs = []) (h2 : fd.params.vararg = none) (h3 : fd.params.kwonlyargs = []) (h4 : fd.params.kwarg = none) (hd : fd.defaults = .none) (nd : (ps.take us.length ++ ks).Nodup) (hn : us.length ≤ ps.length) (hk : ∀ k ∈ ks, k ∈ ps) (hc : ∀ p ∈ ps, p ∈ ps.take us.length ++ ks) (hl : ws.length = ks.length) : PySem.bindArgs fd ⟨us, ks.zip ws⟩ = pure (ps.filterMap fun n => (((ps.take us.length ++ ks).zip (us ++ ws)).lookup n).map (n, ·)) := by
  unfold PySem.bindArgs
  simp only [h1, h2, h3, h4, hd, hps]
  have e1 : (seqItems? Value.none) = pure none := rfl
  rw [e1]
  simp only [List.map_nil, List.nil_append, List.append_nil, List.forIn_nil, pure_bind, Option.getD, List.length_nil]
  have hz : ps.zip us ++ ks.zip ws = (ps.take us.length ++ ks).zip (us ++ ws) := by
    rw [zip_take ps us, List.zip_append (by simp; omega)]
  rw [forIn_app (ks.zip ws) (ps.zip us) ?h]
  case h =>
    intro pre x suf e
    have hx : x.1 ∈ ks := by
      have : x ∈ ks.zip ws := by rw [e]; simp
      exact (List.of_mem_zip this).1
    have hkeys : (ps.zip us).map (·.1) ++ (ks.zip ws).map (·.1) = ps.take us.length ++ ks := by
      rw [zip_take ps us, List.map_fst_zip (by simp; omega), List.map_fst_zip (by omega)]
    have hnot : x.1 ∉ (ps.zip us ++ pre).map (·.1) := by
      rw [e] at hkeys
      rw [← hkeys] at nd
      intro hm
      rw [List.map_append, List.mem_append] at hm
      rw [List.map_append, List.map_cons, ← List.append_assoc, List.nodup_append] at nd
      exact nd.2.2 x.1 (List.mem_append.mpr hm) x.1 (List.mem_cons_self ..) rfl
    dsimp only
    rw [if_pos (by rw [List.contains_iff_mem.mpr (hk _ hx)]; rfl), lookup_none hnot, if_neg (by simp)]
  rw [pure_bind]
  dsimp only
  rw [hz]
  have hlk : ∀ n ∈ ps, (((ps.take us.length ++ ks).zip (us ++ ws)).lookup n).isSome = true := fun n hn' => lookup_zip (by simp; omega) n (hc n hn')
  have c1 : (decide (us.length > ps.length) && (none : Option Arg).isNone) = false := by
    simp; omega
  have c2 : ∀ m, (ps.take m).filter (fun n => (((ps.take us.length ++ ks).zip (us ++ ws)).lookup n).isNone) = [] := by
    intro m
    rw [List.filter_eq_nil_iff]
    intro n hn'
    have := hlk n (List.mem_of_mem_take hn')
    cases h : ((ps.take us.length ++ ks).zip (us ++ ws)).lookup n with
    | none => rw [h] at this; cases this
    | some v => simp
  rw [if_neg (by rw [c1]; simp), if_neg (by rw [c2]; simp)]
  have c3 : ∀ m, (ps.drop m).zip (List.drop (0 - ps.length) ([] : List Value)) = [] := by
    intro m; simp
  rw [c3]
  simp only [List.forIn_nil, pure_bind]
  rw [if_neg (by simp)]
/-- the values at places -/
def pick {α : Type} (xs : List α) (is : List Nat) : List α := is.filterMap fun i => xs[i]?
theorem lookup_idx {qs : List Str} {vals : List Value} (hl : vals.length = qs.length) {p : Str} (hp : p ∈ qs) : (qs.zip vals).lookup p = vals[qs.idxOf p]? := by
  induction qs generalizing vals with
  | nil => cases hp
  | cons q qs ih =>
    cases vals with
    | nil => simp at hl
    | cons v vals =>
      rw [List.zip_cons_cons, List.lookup_cons, List.idxOf_cons]
      by_cases c : p = q
      · subst c; simp
      · have e1 : (p == q) = false := by simpa using c
        have e2 : (q == p) = false := by simpa using Ne.symm c
        rw [e1, e2]
        simp only [cond_false]
        rw [ih (by simpa using hl) ((List.mem_cons.mp hp).resolve_left c)]
        rfl
theorem pick_some {α : Type} {xs : List α} : ∀ {is : List Nat}, (∀ i ∈ is, i < xs.length) → (pick xs is).length = is.length
  | [], _ => rfl
  | i :: is, h => by
    have hi := h i (List.mem_cons_self ..)
    unfold pick
    rw [List.filterMap_cons, List.getElem?_eq_getElem hi]
    simp only [List.length_cons]
    congr 1
    exact pick_some fun j hj => h j (List.mem_cons_of_mem _ hj)
theorem vals_pick {vs : List V} {us : List Value} (r : Vals vs us) : ∀ (is : List Nat), Vals (pick vs is) (pick us is)
  | [] => .nil
  | i :: is => by
    unfold pick
    rw [List.filterMap_cons, List.filterMap_cons]
    have hl := r.length
    by_cases h : i < vs.length
    · rw [List.getElem?_eq_getElem h, List.getElem?_eq_getElem (hl ▸ h)]
      refine .cons ?_ (vals_pick r is)
      obtain ⟨u, hu, ru⟩ := Vals.get r (List.getElem?_eq_getElem h)
      rw [List.getElem?_eq_getElem (hl ▸ h)] at hu
      cases hu; exact ru
    · rw [List.getElem?_eq_none (by omega), List.getElem?_eq_none (by omega)]
      exact vals_pick r is
end Mi
/-! Mini, part Z4: a law's data; what the head tells; all defs keep their promises. -/
set_option autoImplicit false
set_option linter.all false
namespace Mi
open PySem L2

theorem mem_of_lk {α : Type} {k : Str} {v : α} : ∀ {l : List (Str × α)}, l.lookup k = some v → (k, v) ∈ l
  | [], h => by cases h
  | (a, b) :: l, h => by
    rw [List.lookup_cons] at h
    by_cases c : k = a
    · subst c
      simp at h
      subst h; exact List.mem_cons_self ..
    · have : (k == a) = false := by simpa using c
      rw [this] at h
      exact List.mem_cons_of_mem _ (mem_of_lk h)
/-- where a def is found -/
inductive Pth where
  | glo (x : Str) | meth (C m : Str) | prop (C m : Str)
  deriving DecidableEq
def pget (K : W.Frag) (q : Addr) : Addr := match W.recIn K q "property" with
  | some (.ref g :: _) => g
  | _ => 0
def Pth.ad (K : W.Frag) : Pth → Addr
  | .glo x => He.ga K x
  | .meth C m => He.ma K (He.ga K C) m
  | .prop C m => pget K (He.ma K (He.ga K C) m)
def fdAt (K : W.Frag) (a : Addr) : Option FuncData := match K.lookup a with
  | some ⟨_, _, .func fd, _⟩ => some fd
  | _ => none
/-- a def: its name in Mini, where it stands, its text -/
structure DefM where
  f : Str
  p : Pth
  name : Str
  qual : Str
  params : Arguments
  body : List Stmt
  scope : Scope
def DefM.of (f : Str) (p : Pth) (name qual : Str) (s : Stmt) : DefM := ⟨f, p, name, qual, defArgs s, defBody s, defScope s⟩
/-- an exception class: its name, its __init__ -/
structure XDefM where
  cls : Str
  stm : Stmt
structure LawD where
  P : MProg
  T : Tb
  defs : List DefM
  fuel : Nat
  xdefs : List XDefM := []
  file : Str := Str.empty
def LawD.find (L : LawD) (f : Str) : Option DefM := L.defs.find? fun m => decide (m.f = f)
def LawD.G (L : LawD) (K : W.Frag) (mg : Str → Option Value) : Wd where
  K := K
  cls := fun c => if ((clsOf L.P c).isSome || (excOf L.P c).isSome) = true then some (He.ga K c) else none
  fnA := fun f => (L.find f).bind fun m => (fdAt K (m.p.ad K)).map fun fd => (m.p.ad K, fd)
  mg := mg
  hid := []
abbrev FnW := He.FnW
abbrev FnX : Type := Option (Str × Str × Arguments × FuncBody × Scope × Addr × List Str × Addr)
def fnXa (K : W.Frag) (a : Addr) : FnX := match K.lookup a with
  | some ⟨_, _, .func fd, _⟩ => some (fd.name, fd.qualname, fd.params, fd.body, fd.scope, fd.globals, fd.closure.map (·.1), fd.builtins)
  | _ => none
def XDefM.qual (d : XDefM) : Str := d.cls ++ (".__init__" : Str)
def XDefM.val (d : XDefM) : FnX := some ("__init__", d.qual, defArgs d.stm, .stmts (defBody d.stm), defScope d.stm, mainGlobals, ["__class__"], builtinsNs)
def XDefM.ad (K : W.Frag) (d : XDefM) : Addr := He.ma K (He.ga K d.cls) "__init__"
def fnWa (K : W.Frag) (a : Addr) : FnW := match K.lookup a with
  | some ⟨_, _, .func fd, _⟩ => some (fd.name, fd.qualname, fd.params, fd.body, fd.scope, fd.globals, fd.closure, fd.builtins)
  | _ => none
def DefM.val (d : DefM) : FnW := some (d.name, d.qual, d.params, .stmts d.body, d.scope, mainGlobals, [], builtinsNs)
def DefM.okK (K : W.Frag) (d : DefM) : Bool := W.keepIn K (.ref (d.p.ad K)) && (match K.lookup (d.p.ad K) with
  | some ⟨_, _, .func fd, _⟩ => W.codeIn K fd.code d.qual && He.dflB K fd.defaults []
  | _ => false)
theorem funD_of {K : W.Frag} {d : DefM} (e : fnWa K (d.p.ad K) = d.val) (c : d.okK K = true) : ∃ fd, fdAt K (d.p.ad K) = some fd ∧ FunD K d.name d.qual d.params d.body d.scope [] [] (d.p.ad K) fd ∧ fd.params = d.params ∧ fd.defaults = .none := by
  obtain ⟨kp, c2⟩ := He.ba c
  unfold fnWa at e
  unfold fdAt
  cases q : K.lookup (d.p.ad K) with
  | none =>
    rw [q] at c2
    cases c2
  | some o =>
    obtain ⟨oc, od, dt, osl⟩ := o
    rw [q] at c2 e
    cases dt with
    | func fd =>
      obtain ⟨n1, n2, n3, n4, n5, n6, n7, n8, n9, n10, n11, n12, n13, n14, n15⟩ := fd
      have e2 : (some (n1, n2, n3, n4, n5, n6, n7, n15) : FnW) = some (d.name, d.qual, d.params, .stmts d.body, d.scope, mainGlobals, [], builtinsNs) := e
      simp only [Option.some.injEq, Prod.mk.injEq] at e2
      obtain ⟨h1, h2, h3, h4, h5, h6, h7, h8⟩ := e2
      subst h1 h2 h3 h4 h5 h6 h7 h8
      have c3 : (W.codeIn K n13 d.qual && He.dflB K n8 []) = true := c2
      obtain ⟨k1, k2⟩ := He.ba c3
      have k3 := He.dflB_ok k2
      refine ⟨_, rfl, ⟨⟨oc, od, n8, n9, n10, n11, n12, n13, n14, osl, rfl, q, k1, k3, .inl rfl⟩, kp⟩, rfl, ?_⟩
      rcases k3 with ⟨_, e⟩ | ⟨e, _⟩
      · exact e
      · exact (e rfl).elim
    | _ => cases c2

/-! ### what is asked of the written part -/
def pthB (L : LawD) (f : Str) (p : Pth) : Bool := match L.find f with
  | some m => decide (m.p = p)
  | none => false
def scaB : MV → Value → Bool
  | .non, .none => true
  | .bl b, .bool c => b == c
  | .int i, .int j _ => decide (i = j)
  | .str s, .str t _ => decide (s = t)
  | _, _ => false
theorem scaB_ok {v : MV} {u : Value} (h : scaB v u = true) : ∃ x, RelV x u ∧ Sca v x := by
  cases v with
  | non =>
    cases u with
    | none => exact ⟨.non, rfl, rfl⟩
    | _ => cases h
  | bl b =>
    cases u with
    | bool c =>
      have e : b = c := by simpa [scaB] using h
      subst e; exact ⟨.bl b, rfl, rfl⟩
    | _ => cases h
  | int i =>
    cases u with
    | int j t =>
      have e : i = j := by simpa [scaB] using h
      subst e; exact ⟨.int i, ⟨t, rfl⟩, rfl⟩
    | _ => cases h
  | str s =>
    cases u with
    | str j t =>
      have e : s = j := by simpa [scaB] using h
      subst e; exact ⟨.str s, ⟨t, rfl⟩, rfl⟩
    | _ => cases h
  | _ => cases h
def gloB (K : W.Frag) (p : Str × MV) : Bool := match W.nsIn K mainGlobals p.1 with
  | some (some u) => scaB p.2 u
  | _ => false
def propB (K : W.Frag) (C : Addr) (m : Str) : Bool :=
  decide (W.findIn K (.ref C) m = some (some (.ref (He.ma K C m)))) && decide (W.specialIn K (.ref (He.ma K C m)) "__get__" = some (some (.builtin "property.__get__"))) && decide (W.takesIn K (.ref (He.ma K C m)) = some true) &&
  (match W.recIn K (He.ma K C m) "property" with
    | some (.ref g :: _) => true
    | _ => false)
theorem propB_ok {K : W.Frag} {C : Addr} {m : Str} (h : propB K C m = true) : PropOf K C m (He.ma K C m) (pget K (He.ma K C m)) := by
  simp only [propB, Bool.and_eq_true, decide_eq_true_eq] at h
  obtain ⟨⟨⟨h1, h2⟩, h3⟩, h4⟩ := h
  refine ⟨h1, h2, h3, ?_⟩
  unfold pget
  split at h4
  · rename_i g rest hr
    rw [hr]
    exact ⟨rest, rfl⟩
  · cases h4
def othB (K : W.Frag) (C : Addr) : Bool := decide (W.findIn K (.ref C) "__ne__" = some (some (.builtin "object.__ne__"))) && tyNs.all fun n => W.notFirst K C (.type n) && decide (W.kitOne K (.type n) (.ref C) = some false)
def tyB (K : W.Frag) (C : Addr) : Bool := decide (W.findIn K (.ref C) "__class__" = some (some (.builtin "object.__class__"))) && decide (W.specialIn K (.builtin "object.__class__") "__get__" = some (some (.builtin "getset_descriptor.__get__"))) && decide (W.takesIn K (.builtin "object.__class__") = some true) && decide (W.mroIn K C (.type "object") = some true)
def clsKB (L : LawD) (K : W.Frag) (d : CDef) : Bool :=
  (He.Fa.glo d.nm).ok K && (He.Fa.cls d.nm).ok K && W.notFirst K (He.ga K d.nm) (.ref (He.ga K d.nm)) &&
  (match d.meths.lookup ("__init__" : Str) with
    | some f => pthB L f (.meth d.nm "__init__") && (He.Fa.mkr d.nm).ok K
    | none => true) &&
  (d.meths.all fun q => pthB L q.2 (.meth d.nm q.1) && (He.Fa.meth d.nm q.1).ok K) &&
  (d.props.all fun q => pthB L q.2 (.prop d.nm q.1) && propB K (He.ga K d.nm) q.1) &&
  (d.flds.all fun f => (He.Fa.noat d.nm f).ok K) && tyB K (He.ga K d.nm) && othB K (He.ga K d.nm)
/-! ### exceptions -/
def oexB (K : W.Frag) (C : Addr) : Bool := (match K.lookup C with
  | some ⟨.type "type", _, .cls cd, sl⟩ => (match cd.mro, sl.toList with
    | .ref C' :: bm, [_, _, _, _, some (.builtin n), _] => decide (C' = C) && decide (n = "ValueError.__new__") && !cd.hasDel && cd.hasDict && PySem.HandSPX.refsVE bm
    | _, _ => false)
  | _ => false) && decide (W.findIn K (.ref C) "__setattr__" = some (some (.builtin "object.__setattr__"))) && decide (W.subIn K (.ref C) (.type "BaseException") = some true) && decide (W.typeIn K (.ref C) = some (.type "type")) && W.keepIn K (.ref C)
theorem oexB_ok {K : W.Frag} {C : Addr} (h : oexB K C = true) : OexC K C := by
  simp only [oexB, Bool.and_eq_true, decide_eq_true_eq] at h
  obtain ⟨⟨⟨⟨h1, h2⟩, h3⟩, h4⟩, h5⟩ := h
  refine ⟨?_, h2, h3, h4, h5⟩
  split at h1
  · rename_i dd cd sl ho
    split at h1
    · rename_i C' bm k0 k1 k2 k3 n k5 hm hs
      simp only [Bool.and_eq_true, decide_eq_true_eq, Bool.not_eq_true'] at h1
      obtain ⟨⟨⟨⟨rfl, rfl⟩, hdel⟩, hdi⟩, hr⟩ := h1
      obtain ⟨nm, bs, mro, ns, qn, hd, sn, sub, ab, col, del⟩ := cd
      dsimp only at hm hdel hdi
      subst hm hdel hdi
      have hsl : sl = #[k0, k1, k2, k3, some (.builtin "ValueError.__new__"), k5] := by
        apply Array.ext'
        rw [hs]
      subst hsl
      exact ⟨nm, qn, ns, bs, bm, sn, sub, ab, col, dd, k0, k1, k2, k3, k5, ho, hr⟩
    · cases h1
  · cases h1
/-- isinstance asks the class's instances rightly -/
def isxB (K : W.Frag) (C : Addr) : Bool := decide (W.findIn K (.ref C) "__getattribute__" = some (some (.builtin "BaseException.__getattribute__"))) && decide (W.findIn K (.ref C) "__getattr__" = some none) && decide (W.subIn K (.ref C) (.type "BaseException") = some true) && W.hasDictIn K C && tyB K C && decide (W.kitOne K (.ref C) (.type "ValueError") = some true)
theorem isxB_ok {K : W.Frag} {C : Addr} (h : isxB K C = true) : ExcC K C ∧ W.kitOne K (.ref C) (.type "ValueError") = some true := by
  simp only [isxB, tyB, Bool.and_eq_true, decide_eq_true_eq] at h
  obtain ⟨⟨⟨⟨⟨h1, h2⟩, h3⟩, h4⟩, ⟨⟨⟨h5, h6⟩, h7⟩, h8⟩⟩, h9⟩ := h
  exact ⟨⟨h1, h2, h3, h4, h5, h6, h7, h8⟩, h9⟩
def fileB (K : W.Frag) (a : Addr) (file : Str) : Bool := match K.lookup a with
  | some ⟨_, _, .fields vs, _⟩ => (match (vs[2]? : Option Value) with
    | some (Value.str f _) => decide (f = file)
    | _ => false)
  | _ => false
def cellB (K : W.Frag) (a C : Addr) : Bool := match K.lookup a with
  | some ⟨_, _, .cell (some (.ref D)), _⟩ => decide (D = C)
  | _ => false
def xfnB (L : LawD) (K : W.Frag) (d : XDefM) : Bool := match K.lookup (d.ad K) with
  | some ⟨_, _, .func fd, _⟩ => (match fd.closure, fd.code with
    | [(_, cc)], .ref cda => W.codeIn K (.ref cda) d.qual && He.dflB K fd.defaults [] && cellB K cc (He.ga K d.cls) && fileB K cda L.file
    | _, _ => false)
  | _ => false
def xcB (L : LawD) (K : W.Frag) (d : XDefM) : Bool := let C := He.ga K d.cls
  (He.Fa.glo d.cls).ok K && oexB K C && (xfB K C && isxB K C) && (W.clsIn K C).isSome && decide (W.nsIn K cStatics "thirdparty.any" = some none) && decide (W.ks_superIn K C C "__init__" = some (some (.builtin "ValueError.__init__"))) && decide (W.subIn K (.ref C) (.type "ValueError") = some true) && decide (W.mroIn K C (.ref C) = some true) &&
  decide (W.findIn K (.ref C) "__init__" = some (some (.ref (d.ad K)))) && decide (W.typeIn K (.ref (d.ad K)) = some (.type "function")) && xfnB L K d && (match excOf L.P d.cls with
    | some e => e.ns.all fun f => decide (W.findIn K (.ref C) f = some none)
    | none => false)
def exmB (L : LawD) (K : W.Frag) (x : Str) : Bool := (He.Fa.glo x).ok K && L.P.excs.all fun d => decide (W.exmOne K (.ref (He.ga K d.nm)) (.ref (He.ga K x)) = some (catches L.P x d.nm)) && decide (W.kitOne K (.ref (He.ga K d.nm)) (.ref (He.ga K x)) = some (catches L.P x d.nm))
/-- what the head's run is asked -/
def chkK (L : LawD) (K : W.Frag) : Bool :=
  (L.defs.all fun m => m.okK K) && (L.T.plain.all fun f => (He.Fa.glo f).ok K) && (L.T.frees.all fun x => (He.Fa.free x).ok K) && (L.T.globs.all fun p => gloB K p) && (L.P.cls.all fun d => clsKB L K d) && (K.lookup sysModules).isSome && (L.xdefs.all fun d => xcB L K d) && (L.T.hnd.all fun x => exmB L K x)
def fnScopeB (N ps : List Str) (sc : Scope) : Bool :=
  decide (sc.kind = .function) && !sc.isCoroutine && !sc.isGenerator && decide N.Nodup && decide (N.take ps.length = ps) && (ps.all fun x => locB sc x) && (sc.names.all fun y => decide (y.2 ≠ .free))
theorem fnScopeB_ok {N ps : List Str} {sc : Scope} (h : fnScopeB N ps sc = true) : FnScope N ps sc := by
  simp only [fnScopeB, Bool.and_eq_true, decide_eq_true_eq, Bool.not_eq_true'] at h
  obtain ⟨⟨⟨⟨⟨⟨h1, h2⟩, h3⟩, h4⟩, h5⟩, h6⟩, h7⟩ := h
  exact ⟨h1, h2, h3, h4, h5, fun x hx => loc_of (List.all_eq_true.mp h6 x hx), fun y hy => by simpa using List.all_eq_true.mp h7 y hy⟩
def simpB (a : Arguments) (ps : List Str) : Bool := a.posonlyargs.isEmpty && a.vararg.isNone && a.kwonlyargs.isEmpty && a.kwarg.isNone && decide (a.args.map (·.arg) = ps)
theorem simpB_ok {a : Arguments} {ps : List Str} (h : simpB a ps = true) : a.posonlyargs = [] ∧ a.vararg = none ∧ a.kwonlyargs = [] ∧ a.kwarg = none ∧ a.args.map (·.arg) = ps := by
  simp only [simpB, Bool.and_eq_true, decide_eq_true_eq, List.isEmpty_iff, Option.isNone_iff_eq_none] at h
  obtain ⟨⟨⟨⟨h1, h2⟩, h3⟩, h4⟩, h5⟩ := h
  exact ⟨h1, h2, h3, h4, h5⟩
/-- a call with keywords of a plain def -/
def kwOk (ps : List Str) (n : Nat) (ks : List Str) : Bool := decide (n ≤ ps.length) && decide ((ps.take n ++ ks).Nodup) && (ks.all fun k => ps.contains k) && (ps.all fun p => (ps.take n ++ ks).contains p)
def kwB (ps : List Str) (q : KwQ) : Bool := kwOk ps q.n q.ks && decide (q.how = ps.map fun p => MB.arg ((ps.take q.n ++ q.ks).idxOf p))
def kwmB (ps : List Str) (q : KwQ) : Bool := kwOk ps (q.n + 1) q.ks && (match ps with
  | p0 :: r => decide (q.how = r.map fun p => MB.arg ((r.take q.n ++ q.ks).idxOf p)) && !(r.contains p0)
  | [] => false)
/-- the text of an exception's __init__ -/
def xtxB (L : LawD) (d : XDefM) : Bool := match excOf L.P d.cls, defBody d.stm, (defArgs d.stm).args.map (·.arg) with
  | some e, .Expr (.Call (.Attribute (.Call (.Name s p0) [] [] p1) i p2) [.Constant (.str text) p3 p4] [] pos) p5 :: rest, a0 :: as =>
    decide (s = ("super" : Str)) && decide (i = ("__init__" : Str)) && (p2.endLine == pos.line) && simpB (defArgs d.stm) (a0 :: as) && decide ((defScope d.stm).kind = .function) && !(defScope d.stm).isCoroutine && !(defScope d.stm).isGenerator && decide (a0 :: as).Nodup && ((a0 :: as).all fun x => decide ((defScope d.stm).names.lookup x = some .local)) &&
    ((defScope d.stm).names.all fun y => decide (y.2 ≠ .cell) && (decide (y.2 ≠ .free) || decide (y.1 = ("__class__" : Str)))) && decide ((defScope d.stm).names.lookup ("super" : Str) = some .globalImplicit) && decide ((defScope d.stm).names.lookup ("__class__" : Str) = some .free) &&
    okA a0 && restB a0 as e.ns rest && !e.ns.isEmpty && decide e.ns.Nodup && decide (e.ns.length ≤ 900) && decide (as.length = e.ns.length) && (L.T.kwx.all fun q => !(decide (q.f = d.cls)) || kwmB (a0 :: as) q)
  | _, _, _ => false
/-- what is asked of the texts -/
def chkL (L : LawD) : Bool :=
  (L.defs.all fun m => match fnOf? L.P m.f with
    | some d => fnScopeB d.N d.ps m.scope && simpB m.params d.ps && chkSs ⟨L.P, L.T, d.N⟩ L.fuel m.scope d.body m.body
    | none => false) && (L.T.plain.all fun f => pthB L f (.glo f)) &&
  (L.T.kws.all fun q => match fnOf? L.P q.f with
    | some d => kwB d.ps q
    | none => false) &&
  (L.T.kwm.all fun q => match fnOf? L.P q.f with
    | some d => kwmB d.ps q
    | none => false) && (L.xdefs.all fun d => xtxB L d) && (L.P.excs.all fun e => (L.xdefs.find? fun d => decide (d.cls = e.nm)).isSome && L.T.frees.contains ("super" : Str))

/-! ### the hook -/
abbrev AlM : Type := Bool × List FnW × List FnX
def obsM (L : LawD) (K : W.Frag) : AlM := (chkK L K, L.defs.map fun m => fnWa K (m.p.ad K), L.xdefs.map fun d => fnXa K (d.ad K))
def valM (L : LawD) : AlM := (true, L.defs.map DefM.val, L.xdefs.map XDefM.val)
def SaysM (L : LawD) (K : W.Frag) : Prop := obsM L K = valM L
def obsMG (n : Nat) (L : LawD) (g : Addr → Option Obj) : AlM := obsM L (He.frG g (sysModules :: cStatics :: He.asD g n))
def hookM (n : Nat) (L : LawD) : W.Hook where
  α := AlM
  obs := fun s => obsMG n L s.heap.get?
  val := fun _ => valM L
  says := fun _ h => ∃ K : W.Frag, K.In h ∧ SaysM L K
  of := fun _ _ e => ⟨_, He.frG_in, e⟩
  keeps := fun _ _ _ ⟨K, hK, c⟩ k => ⟨K, W.Frag.In.keeps hK k, c⟩
theorem obsMG_eq {n : Nat} {L : LawD} {g : Addr → Option Obj} {s : Shared} (h : ∀ a, g a = s.heap.get? a) : obsMG n L g = (hookM n L).obs s := by
  have e : g = s.heap.get? := funext h
  rw [e] <;> rfl
section
variable {L : LawD} {K : W.Frag}
theorem SaysM.chk (c : SaysM L K) : chkK L K = true := congrArg (fun z : AlM => z.1) c
theorem SaysM.def_ (c : SaysM L K) {m : DefM} (h : m ∈ L.defs) : ∃ fd, fdAt K (m.p.ad K) = some fd ∧ FunD K m.name m.qual m.params m.body m.scope [] [] (m.p.ad K) fd ∧ fd.params = m.params ∧ fd.defaults = .none := by
  have e : L.defs.map (fun m => fnWa K (m.p.ad K)) = L.defs.map DefM.val := congrArg (fun z : AlM => z.2.1) c
  obtain ⟨i, hi⟩ := List.mem_iff_getElem?.mp h
  have e2 : (L.defs.map fun m => fnWa K (m.p.ad K))[i]? = (L.defs.map DefM.val)[i]? := by rw [e]
  rw [List.getElem?_map, List.getElem?_map, hi] at e2
  have hk := c.chk
  simp only [chkK, Bool.and_eq_true] at hk
  exact funD_of (Option.some.inj e2) (List.all_eq_true.mp hk.1.1.1.1.1.1.1 m h)
theorem find_mem {f : Str} {m : DefM} (h : L.find f = some m) : m ∈ L.defs ∧ m.f = f := ⟨List.mem_of_find?_eq_some h, by simpa using List.find?_some h⟩
theorem fnA_of (c : SaysM L K) {mg : Str → Option Value} {f : Str} {p : Pth} (h : pthB L f p = true) : ∃ fd, (L.G K mg).fnA f = some (p.ad K, fd) := by
  unfold pthB at h
  split at h
  · rename_i m hm
    have e : m.p = p := by simpa using h
    subst e
    obtain ⟨fd, h1, _⟩ := c.def_ (find_mem hm).1
    refine ⟨fd, ?_⟩
    show ((L.find f).bind fun m => (fdAt K (m.p.ad K)).map fun fd => (m.p.ad K, fd)) = _
    rw [hm]
    simp [h1]
  · cases h
theorem of_fnA (c : SaysM L K) {mg : Str → Option Value} {f : Str} {fa : Addr} {fd : FuncData} (h : (L.G K mg).fnA f = some (fa, fd)) : ∃ m, m ∈ L.defs ∧ m.f = f ∧ fa = m.p.ad K ∧ FunD K m.name m.qual m.params m.body m.scope [] [] fa fd ∧ fd.params = m.params ∧ fd.defaults = .none := by
  obtain ⟨m, hm, h⟩ := Option.bind_eq_some_iff.mp h
  obtain ⟨fd', hfd, h⟩ := Option.map_eq_some_iff.mp h
  cases h
  obtain ⟨h1, h2⟩ := find_mem hm
  obtain ⟨fd2, e, F, e2, e3⟩ := c.def_ h1
  rw [hfd] at e; cases e
  exact ⟨m, h1, h2, rfl, F, e2, e3⟩
theorem defL (s : chkL L = true) {m : DefM} (h : m ∈ L.defs) : ∃ d, fnOf? L.P m.f = some d ∧ FnScope d.N d.ps m.scope ∧ simpB m.params d.ps = true ∧ chkSs ⟨L.P, L.T, d.N⟩ L.fuel m.scope d.body m.body = true := by
  simp only [chkL, Bool.and_eq_true] at s
  have := List.all_eq_true.mp s.1.1.1.1.1 m h
  split at this
  · rename_i d hd
    simp only [Bool.and_eq_true] at this
    exact ⟨d, hd, fnScopeB_ok this.1.1, this.1.2, this.2⟩
  · cases this
theorem kbn_of {ps ks : List Str} {n : Nat} {fd : FuncData} (hp : simpB fd.params ps = true) (hd : fd.defaults = .none) (h : kwOk ps n ks = true) : KBn K fd ps n ks (fun us ws => pick (us ++ ws) (ps.map fun p => (ps.take n ++ ks).idxOf p)) (fun vs zs => pick (vs ++ zs) (ps.map fun p => (ps.take n ++ ks).idxOf p)) := by
  simp only [kwOk, Bool.and_eq_true, decide_eq_true_eq] at h
  obtain ⟨⟨⟨h1, h2⟩, h3⟩, h4⟩ := h
  obtain ⟨p1, p2, p3, p4, p5⟩ := simpB_ok hp
  refine ⟨fun s us ws _ hu hw => ?_, fun r1 r2 => vals_pick (r1.append r2) _⟩
  subst hu
  have hc : ∀ p ∈ ps, p ∈ ps.take us.length ++ ks := fun p hp => by
    have := List.all_eq_true.mp h4 p hp
    simpa using this
  have := bind_kw (us := us) (ws := ws) (ks := ks) p5 p1 p2 p3 p4 hd h2 h1 (fun k hk => by
    have := List.all_eq_true.mp h3 k hk
    simpa using this) hc hw
  refine .of_eq (this.trans ?_)
  congr 1
  have hl : (us ++ ws).length = (ps.take us.length ++ ks).length := by simp; omega
  have gen : ∀ rs : List Str, (∀ p ∈ rs, p ∈ ps.take us.length ++ ks) → (rs.filterMap fun n => (((ps.take us.length ++ ks).zip (us ++ ws)).lookup n).map (n, ·)) = rs.zip (pick (us ++ ws) (rs.map fun p => (ps.take us.length ++ ks).idxOf p)) := by
    intro rs
    induction rs with
    | nil => intro _; rfl
    | cons r rs ih =>
      intro hr
      have hm := hr r (List.mem_cons_self ..)
      have hi : (ps.take us.length ++ ks).idxOf r < (us ++ ws).length := by rw [hl]; exact List.idxOf_lt_length_iff.mpr hm
      rw [List.filterMap_cons, lookup_idx hl hm, List.getElem?_eq_getElem hi]
      unfold pick
      rw [List.map_cons, List.filterMap_cons, List.getElem?_eq_getElem hi]
      simp only [Option.map_some, List.zip_cons_cons]
      congr 1
      exact ih fun p hp => hr p (List.mem_cons_of_mem _ hp)
  exact gen ps hc
theorem bindV_pick {xs : List V} : ∀ {is : List Nat}, (∀ i ∈ is, i < xs.length) → bindV xs (is.map MB.arg) = some (pick xs is)
  | [], _ => rfl
  | i :: is, h => by
    have hi := h i (List.mem_cons_self ..)
    have ih := bindV_pick fun j hj => h j (List.mem_cons_of_mem _ hj)
    unfold pick
    rw [List.map_cons, List.filterMap_cons, List.getElem?_eq_getElem hi]
    simp only [bindV, ih, List.getElem?_eq_getElem hi]
    rfl
theorem pick_cons {α : Type} (x : α) (xs : List α) : ∀ is : List Nat, pick (x :: xs) (is.map (· + 1)) = pick xs is
  | [] => rfl
  | i :: is => by
    have := pick_cons x xs is
    unfold pick at this ⊢
    rw [List.map_cons, List.filterMap_cons, List.filterMap_cons, List.getElem?_cons_succ, this]
theorem kwm_of {ps : List Str} {fd : FuncData} {q : KwQ} (sp : simpB fd.params ps = true) (e2 : fd.defaults = .none) (hb : kwmB ps q = true) : ∃ (g : List Value → List Value → List Value) (gV : List V → List V → List V), KBn K fd ps (q.n + 1) q.ks g gV ∧ ∀ x vs zs, vs.length = q.n → zs.length = q.ks.length → ∃ ws, bindV (vs ++ zs) q.how = some ws ∧ gV (x :: vs) zs = x :: ws := by
  simp only [kwmB, Bool.and_eq_true] at hb
  obtain ⟨ok, hb⟩ := hb
  refine ⟨_, _, kbn_of sp e2 ok, fun x vs zs l1 l2 => ?_⟩
  have ok' := ok
  simp only [kwOk, Bool.and_eq_true, decide_eq_true_eq] at ok'
  cases ps with
  | nil => cases hb
  | cons p0 r =>
    simp only [Bool.and_eq_true, decide_eq_true_eq, Bool.not_eq_true'] at hb
    have hp0 : p0 ∉ r := by simpa using hb.2
    refine ⟨pick (vs ++ zs) (r.map fun p => (r.take q.n ++ q.ks).idxOf p), ?_, ?_⟩
    · rw [hb.1]
      rw [show (r.map fun p => MB.arg ((r.take q.n ++ q.ks).idxOf p)) = (r.map fun p => (r.take q.n ++ q.ks).idxOf p).map MB.arg by rw [List.map_map]; rfl]
      refine bindV_pick fun i hi => ?_
      obtain ⟨p, hp, rfl⟩ := List.mem_map.mp hi
      have hm : p ∈ (p0 :: r).take (q.n + 1) ++ q.ks := by
        have := List.all_eq_true.mp ok'.2 p (List.mem_cons_of_mem _ hp)
        simpa using this
      have hm2 : p ∈ r.take q.n ++ q.ks := by
        rw [List.take_succ_cons, List.cons_append] at hm
        rcases List.mem_cons.mp hm with rfl | hm
        · exact (hp0 hp).elim
        · exact hm
      have := List.idxOf_lt_length_iff.mpr hm2
      have hn := ok'.1.1.1
      simp only [List.length_append, List.length_take, List.length_cons] at this hn ⊢
      omega
    · rw [List.map_cons]
      have i0 : ((p0 :: r).take (q.n + 1) ++ q.ks).idxOf p0 = 0 := by
        rw [List.take_succ_cons, List.cons_append, List.idxOf_cons]; simp
      have is : (r.map fun p => ((p0 :: r).take (q.n + 1) ++ q.ks).idxOf p) = (r.map fun p => (r.take q.n ++ q.ks).idxOf p).map (· + 1) := by
        rw [List.map_map]
        apply List.map_congr_left
        intro p hp
        rw [List.take_succ_cons, List.cons_append, List.idxOf_cons]
        have : (p0 == p) = false := by
          rw [beq_eq_false_iff_ne]; intro e; subst e; exact hp0 hp
        rw [this]; rfl
      rw [i0, is]
      show pick (x :: (vs ++ zs)) (0 :: _) = _
      have pc := pick_cons x (vs ++ zs) (r.map fun p => (r.take q.n ++ q.ks).idxOf p)
      unfold pick at pc ⊢
      rw [List.filterMap_cons, pc]
      rfl
theorem stat_of (c : SaysM L K) (s : chkL L = true) {h : Heap} {mg : Str → Option Value} (X : K.In h) (Gn : h.Ns mainGlobals mg) (φ : List Addr) : Stat ((L.G K mg).with φ) L.P L.T := by
  have hk := c.chk
  simp only [chkK, Bool.and_eq_true] at hk
  obtain ⟨⟨⟨⟨⟨⟨⟨k1, k2⟩, k3⟩, k4⟩, k5⟩, k6⟩, k7⟩, k8⟩ := hk
  have s' := s
  simp only [chkL, Bool.and_eq_true] at s'
  obtain ⟨⟨⟨⟨⟨s1, s2⟩, s3⟩, s4⟩, s5⟩, s6⟩ := s'
  refine ⟨k6, ?_, ?_, ?_, ?_, ?_, ?_, ?_, ?_, ?_, ?_, ?_⟩
  · intro f hf
    obtain ⟨fd, h1⟩ := fnA_of (mg := mg) c (List.all_eq_true.mp s2 f hf)
    exact ⟨_, fd, h1, He.glo_ok X Gn (List.all_eq_true.mp k2 f hf)⟩
  · intro f fa fd hf
    obtain ⟨m, h1, rfl, _⟩ := of_fnA (mg := mg) c hf
    obtain ⟨d, hd, _⟩ := defL s h1
    exact ⟨d, hd⟩
  · intro f fa fd hf
    obtain ⟨m, h1, rfl, rfl, F, _⟩ := of_fnA (mg := mg) c hf
    exact F.kp
  · intro f d fa fd hd hf
    obtain ⟨m, h1, rfl, rfl, F, e1, e2⟩ := of_fnA (mg := mg) c hf
    obtain ⟨d', hd', S, sp, _⟩ := defL s h1
    rw [hd] at hd'; cases hd'
    rw [← e1] at sp
    obtain ⟨p1, p2, p3, p4, p5⟩ := simpB_ok sp
    have nd : d.ps.Nodup := by
      have := S.pre
      rw [← this]; exact (List.take_sublist _ _).nodup S.nd
    exact Binds.all fun us hl => by
      have := bind_simple (us := us) p1 p2 p3 p4 e2 (p5.symm ▸ nd) (p5.symm ▸ hl)
      rw [p5] at this; exact this
  · intro x hx
    exact He.free_ok X Gn (List.all_eq_true.mp k3 x hx)
  · intro p hp
    have := List.all_eq_true.mp k4 p hp
    unfold gloB at this
    split at this
    · rename_i u hu
      obtain ⟨v, rv, sv⟩ := scaB_ok this
      exact ⟨v, u, W.mg_of X Gn hu, rv, sv⟩
    · cases this
  · intro n d hd
    have hnm : d.nm = n := by simpa using List.find?_some hd
    have hmem : d ∈ L.P.cls := List.mem_of_find?_eq_some hd
    have hc := List.all_eq_true.mp k5 d hmem
    simp only [clsKB, Bool.and_eq_true] at hc
    obtain ⟨⟨⟨⟨⟨⟨⟨⟨c1, c2⟩, c3⟩, c4⟩, c5⟩, c6⟩, c7⟩, c8⟩, c9⟩ := hc
    simp only [othB, Bool.and_eq_true, decide_eq_true_eq] at c9
    refine ⟨He.ga K d.nm, ?_, He.cls_ok c2, He.glo_ok X Gn c1, c3, ?_, ?_, ?_, ?_, ?_, c9.1, fun n hn => by
      have := List.all_eq_true.mp c9.2 n hn
      rw [Bool.and_eq_true, decide_eq_true_eq] at this
      exact this⟩
    · show (if ((clsOf L.P d.nm).isSome || (excOf L.P d.nm).isSome) = true then some (He.ga K d.nm) else none) = _
      rw [hnm, hd]; rfl
    · intro f hf
      rw [hf] at c4
      simp only [Bool.and_eq_true] at c4
      obtain ⟨fd, h1⟩ := fnA_of (mg := mg) c c4.1
      exact ⟨_, fd, h1, He.mkr_ok c4.2⟩
    · intro m f hf
      have := List.all_eq_true.mp c5 (m, f) (mem_of_lk hf)
      simp only [Bool.and_eq_true] at this
      obtain ⟨fd, h1⟩ := fnA_of (mg := mg) c this.1
      exact ⟨_, fd, h1, He.meth_ok this.2⟩
    · intro m f hf
      have := List.all_eq_true.mp c6 (m, f) (mem_of_lk hf)
      simp only [Bool.and_eq_true] at this
      obtain ⟨fd, h1⟩ := fnA_of (mg := mg) c this.1
      exact ⟨_, _, fd, h1, propB_ok this.2⟩
    · intro f hf
      exact He.noat_ok (List.all_eq_true.mp c7 f hf)
    · simp only [tyB, Bool.and_eq_true, decide_eq_true_eq] at c8
      exact ⟨c8.1.1.1, c8.1.1.2, c8.1.2, c8.2⟩
  · intro q hq d fa fd hd hf
    obtain ⟨m, h1, e0, rfl, F, e1, e2⟩ := of_fnA (mg := mg) c hf
    obtain ⟨d', hd', S, sp, _⟩ := defL s h1
    rw [e0, hd] at hd'; cases hd'
    rw [← e1] at sp
    have hb := List.all_eq_true.mp s3 q hq
    rw [hd] at hb
    simp only [kwB, Bool.and_eq_true, decide_eq_true_eq] at hb
    refine ⟨_, _, kbn_of sp e2 hb.1, fun vs zs l1 l2 => ?_⟩
    rw [hb.2]
    have ok := hb.1
    simp only [kwOk, Bool.and_eq_true, decide_eq_true_eq] at ok
    rw [show (d.ps.map fun p => MB.arg ((d.ps.take q.n ++ q.ks).idxOf p)) = (d.ps.map fun p => (d.ps.take q.n ++ q.ks).idxOf p).map MB.arg by rw [List.map_map]; rfl]
    refine bindV_pick fun i hi => ?_
    obtain ⟨p, hp, rfl⟩ := List.mem_map.mp hi
    have hm : p ∈ d.ps.take q.n ++ q.ks := by
      have := List.all_eq_true.mp ok.2 p hp
      simpa using this
    have := List.idxOf_lt_length_iff.mpr hm
    have hn := ok.1.1.1
    simp only [List.length_append, List.length_take] at this ⊢
    omega
  · intro q hq d fa fd hd hf
    obtain ⟨m, h1, e0, rfl, F, e1, e2⟩ := of_fnA (mg := mg) c hf
    obtain ⟨d', hd', S, sp, _⟩ := defL s h1
    rw [e0, hd] at hd'; cases hd'
    rw [← e1] at sp
    have hb := List.all_eq_true.mp s4 q hq
    rw [hd] at hb
    exact kwm_of sp e2 hb
  · intro n e he
    have s6' := List.all_eq_true.mp s6 e (List.mem_of_find?_eq_some he)
    have hnm : e.nm = n := by simpa using List.find?_some he
    simp only [Bool.and_eq_true] at s6'
    obtain ⟨d, hd⟩ := Option.isSome_iff_exists.mp s6'.1
    have hm := List.mem_of_find?_eq_some hd
    have hcls : d.cls = e.nm := by simpa using List.find?_some hd
    have hx := List.all_eq_true.mp k7 d hm
    have he' : excOf L.P d.cls = some e := by rw [hcls, hnm]; exact he
    have ht := List.all_eq_true.mp s5 d hm
    simp only [xcB, Bool.and_eq_true, decide_eq_true_eq] at hx
    obtain ⟨⟨⟨⟨⟨⟨⟨⟨⟨⟨⟨x1, x2⟩, x3⟩, x4⟩, x5⟩, x6⟩, x7⟩, x8⟩, x9⟩, x10⟩, x11⟩, x12⟩ := hx
    rw [he'] at x12
    refine ⟨He.ga K d.cls, ?_, ?_, oexB_ok x2, xfB_ok x3.1, fun f hf => of_decide_eq_true (List.all_eq_true.mp x12 f hf), ?_, (isxB_ok x3.2).1, (isxB_ok x3.2).2⟩
    · show (if ((clsOf L.P e.nm).isSome || (excOf L.P e.nm).isSome) = true then some (He.ga K e.nm) else none) = _
      rw [← hcls, he']; simp
    · rw [← hcls]; exact He.glo_ok X Gn x1
    · unfold xtxB at ht
      split at ht
      · rename_i q1 _ _
        rw [he'] at q1; cases q1
        simp only [Bool.and_eq_true, decide_eq_true_eq] at ht
        exact ht.1.1.2
      · cases ht
  · intro x hx
    have := List.all_eq_true.mp k8 x hx
    simp only [exmB, Bool.and_eq_true] at this
    refine ⟨He.ga K x, He.glo_ok X Gn this.1, fun n d C hd hC => ?_⟩
    have hnm : d.nm = n := by simpa using List.find?_some hd
    have h2 := List.all_eq_true.mp this.2 d (List.mem_of_find?_eq_some hd)
    have hC' : (if ((clsOf L.P n).isSome || (excOf L.P n).isSome) = true then some (He.ga K n) else none) = some C := hC
    rw [hd] at hC'
    simp at hC'
    rw [← hC', ← hnm]
    simp only [Bool.and_eq_true, decide_eq_true_eq] at h2
    exact h2
/-! ### exceptions -/
theorem ht_super (o e : Expr) (m : Str) (apos pos : Pos) (env : PySem.Env) (hs : isStar e = false) (hp : (apos.endLine == pos.line) = true) : ∃ pl : Sem Bool, eval ((o.Attribute m apos).Call [e] [] pos) env = (do
      let ov ← attributeBase o m env (eval o env)
      standAt apos.atName
      let (f, first) ← holding [ov] (getMethod ov m pl)
      callWith pos f first (backTo pos (starEach [e] env)) []) := by
  refine ⟨(do let r ← importBound o env; pure (r.getD true)), ?_⟩
  rw [eval]
  unfold methodCall
  rw [form_ok (by simp [hs]) (by simp)]
  unfold calleeOf methodCallPos
  rw [hp]
  rfl
theorem xdef_of (c : SaysM L K) (s : chkL L = true) {n : Str} {e : XDef} (h : excOf L.P n = some e) : ∃ d, d ∈ L.xdefs ∧ d.cls = n ∧ e.nm = n ∧ xcB L K d = true ∧ xtxB L d = true ∧ fnXa K (d.ad K) = d.val ∧ L.T.frees.contains ("super" : Str) = true := by
  have hk := c.chk
  simp only [chkK, Bool.and_eq_true] at hk
  obtain ⟨⟨_, k7⟩, _⟩ := hk
  have s' := s
  simp only [chkL, Bool.and_eq_true] at s'
  obtain ⟨⟨_, s5⟩, s6⟩ := s'
  have hnm : e.nm = n := by simpa using List.find?_some h
  have h6 := List.all_eq_true.mp s6 e (List.mem_of_find?_eq_some h)
  simp only [Bool.and_eq_true] at h6
  obtain ⟨d, hd⟩ := Option.isSome_iff_exists.mp h6.1
  have hm := List.mem_of_find?_eq_some hd
  have hcls : d.cls = e.nm := by simpa using List.find?_some hd
  have e3 : L.xdefs.map (fun d => fnXa K (d.ad K)) = L.xdefs.map XDefM.val := congrArg (fun z : AlM => z.2.2) c
  obtain ⟨i, hi⟩ := List.mem_iff_getElem?.mp hm
  have e2 : (L.xdefs.map fun d => fnXa K (d.ad K))[i]? = (L.xdefs.map XDefM.val)[i]? := by rw [e3]
  rw [List.getElem?_map, List.getElem?_map, hi] at e2
  exact ⟨d, hm, hcls.trans hnm, hnm, List.all_eq_true.mp k7 d hm, List.all_eq_true.mp s5 d hm, Option.some.inj e2, h6.2⟩
theorem xin_of (c : SaysM L K) (s : chkL L = true) {h : Heap} {mg : Str → Option Value} (X : K.In h) (Gn : h.Ns mainGlobals mg) {prog : Program} (hfile : (prog.main.file : Str) = L.file) (htop : (prog.main.scope.names.lookup ("super" : Str)).isSome = false) (w : World) (base : Heap) (W n : Nat) : XInOk { G := L.G K mg, P := L.P, W := W, n := n } L.T prog w base := by
  intro x e C he hC
  obtain ⟨d, hd, rfl, hnm, hx, ht, hv, hsup⟩ := xdef_of c s he
  have he' : excOf L.P d.cls = some e := he
  have hC' : (L.G K mg).cls d.cls = some (He.ga K d.cls) := by
    show (if ((clsOf L.P d.cls).isSome || (excOf L.P d.cls).isSome) = true then some (He.ga K d.cls) else none) = _
    rw [he']; simp
  rw [hC'] at hC
  cases hC
  simp only [xcB, Bool.and_eq_true, decide_eq_true_eq] at hx
  obtain ⟨⟨⟨⟨⟨⟨⟨⟨⟨⟨⟨x1, x2⟩, x3⟩, x4⟩, x5⟩, x6⟩, x7⟩, x8⟩, x9⟩, x10⟩, x11⟩, x12⟩ := hx
  rw [he'] at x12
  have hmg : mg "super" = none := He.free_ok X Gn (by
    have hk := c.chk
    simp only [chkK, Bool.and_eq_true] at hk
    exact List.all_eq_true.mp hk.1.1.1.1.1.2 _ (by simpa using hsup))
  unfold xtxB at ht
  split at ht
  case h_2 => cases ht
  rename_i e' sn p0 p1 i p2 text p3 p4 pos p5 rest a0 as q1 q2 q3
  rw [he'] at q1
  cases q1
  simp only [Bool.and_eq_true, decide_eq_true_eq, Bool.not_eq_true'] at ht
  obtain ⟨⟨⟨⟨⟨⟨⟨⟨⟨⟨⟨⟨⟨⟨⟨⟨⟨⟨rfl, rfl⟩, t1⟩, t2⟩, t3⟩, t4⟩, t5⟩, t6⟩, t7⟩, t8⟩, t9⟩, t10⟩, t11⟩, t12⟩, t13⟩, t14⟩, t15⟩, t16⟩, t17⟩ := ht
  obtain ⟨sp1, sp2, sp3, sp4, sp5⟩ := simpB_ok t2
  obtain ⟨cdC, hcd⟩ := Option.isSome_iff_exists.mp x4
  unfold fnXa at hv
  unfold xfnB at x11
  cases q : K.lookup (d.ad K) with
  | none => rw [q] at x11; cases x11
  | some o =>
    obtain ⟨oc, od, dt, osl⟩ := o
    rw [q] at x11 hv
    cases dt with
    | func fd =>
      dsimp only at x11
      split at x11
      case h_2 => cases x11
      rename_i cn cc cda hcl hco
      simp only [Bool.and_eq_true] at x11
      obtain ⟨⟨⟨y1, y2⟩, y3⟩, y4⟩ := x11
      obtain ⟨n1, n2, n3, n4, n5, n6, n7, n8, n9, n10, n11, n12, n13, n14, n15⟩ := fd
      dsimp only at hcl hco y2
      subst hcl hco
      have e2 : (some (n1, n2, n3, n4, n5, n6, [cn], n15) : FnX) = some (("__init__" : Str), d.qual, defArgs d.stm, FuncBody.stmts (defBody d.stm), defScope d.stm, mainGlobals, [("__class__" : Str)], builtinsNs) := hv
      simp only [Option.some.injEq, Prod.mk.injEq, List.cons.injEq, and_true] at e2
      obtain ⟨h1, h2, h3, h4, h5, h6, h7, h8⟩ := e2
      subst h1 h2 h3 h4 h5 h6 h7 h8
      have hdf : n8 = .none := by
        rcases He.dflB_ok y2 with ⟨_, e⟩ | ⟨e, _⟩
        · exact e
        · exact (e rfl).elim
      unfold cellB at y3
      split at y3
      case h_2 => cases y3
      rename_i ccl ccd D ccs hcc
      have hD : D = He.ga K d.cls := by simpa using y3
      subst hD
      unfold fileB at y4
      split at y4
      case h_2 => cases y4
      rename_i kcl kcd vs kcs hcode
      split at y4
      case h_2 => cases y4
      rename_i fl tf hvs
      have hfl : fl = L.file := by simpa using y4
      subst hfl
      have nd : ((defArgs d.stm).args.map (·.arg)).Nodup := by rw [sp5]; exact t6
      cases har : (defArgs d.stm).args with
      | nil => rw [har] at q3; cases q3
      | cons ar ars =>
        rw [har] at q3
        have ea0 : ar.arg = a0 := (List.cons.inj q3).1
        refine ⟨d.ad K, ⟨("__init__" : Str), d.qual, defArgs d.stm, FuncBody.stmts (defBody d.stm), defScope d.stm, mainGlobals, [(("__class__" : Str), cc)], n8, n9, n10, n11, n12, .ref cda, n14, builtinsNs⟩, a0 :: as, x9, x10, exinit_ok (k := 0) (pl := fun L => (ht_super (.Call (.Name "super" p0) [] [] p1) (.Constant (.str text) p3 p4) "__init__" p2 pos (PySem.W.ksEnv d.qual (defScope d.stm) L (d.ad K) (.ref cda) cc) rfl t1).choose) q (by rw [q2]) y1 hcc hcode hvs t3 t4 t5 t6 (fun x hx => by simpa using List.all_eq_true.mp t7 x hx) (fun y hy => ?_) t9 t10 (by rw [sp1, har]; rfl) ea0 (by rw [hfile]; simp) htop hmg (oexB_ok x2) hcd x5 x6 x7 x8 (fun L => (ht_super (.Call (.Name "super" p0) [] [] p1) (.Constant (.str text) p3 p4) "__init__" p2 pos (PySem.W.ksEnv d.qual (defScope d.stm) L (d.ad K) (.ref cda) cc) rfl t1).choose_spec) t11 t12 (by intro z; rw [z] at t13; cases t13) t14 t15 t16 (fun f hf => of_decide_eq_true (List.all_eq_true.mp x12 f hf)), ?_, fun q hq hf => ?_⟩
        · have := List.all_eq_true.mp t8 y hy
          simp only [Bool.and_eq_true, Bool.or_eq_true, decide_eq_true_eq] at this
          exact ⟨this.1, fun z => this.2.elim (fun k => (k z).elim) id⟩
        · exact Binds.all fun us hl => by
            have := bind_simple (fd := ⟨("__init__" : Str), d.qual, defArgs d.stm, FuncBody.stmts (defBody d.stm), defScope d.stm, mainGlobals, [(("__class__" : Str), cc)], n8, n9, n10, n11, n12, .ref cda, n14, builtinsNs⟩) (us := us) sp1 sp2 sp3 sp4 hdf nd (by rw [sp5]; exact hl)
            rw [sp5] at this; exact this
        · have := List.all_eq_true.mp t17 q hq
          simp only [hf, decide_true, Bool.not_true, Bool.false_or] at this
          exact kwm_of t2 hdf this
    | _ => cases x11
/-- all defs, by depth -/
theorem fns_of (c : SaysM L K) (s : chkL L = true) {h : Heap} {mg : Str → Option Value} (X : K.In h) (Gn : h.Ns mainGlobals mg) (prog : Program) (hfile : (prog.main.file : Str) = L.file) (htop : (prog.main.scope.names.lookup ("super" : Str)).isSome = false) (w : World) (base : Heap) (W : Nat) : ∀ (n : Nat) (φ : List Addr), FnsOk (({ G := L.G K mg, P := L.P, W := W, n := n } : Cf).with φ) prog w base := by
  intro n
  induction n with
  | zero =>
    intro φ f d fa fd hd hf
    obtain ⟨m, h1, rfl, rfl, F, e1, e2⟩ := of_fnA (mg := mg) c hf
    obtain ⟨d', hd', S, sp, _⟩ := defL s h1
    have hd : fnOf? L.P m.f = some d := hd
    rw [hd] at hd'; cases hd'
    refine fun_ok (k := 0) F S ?_ ?_
    · rintro vs H Q E ⟨β, M, xs, rm, rs, ok⟩
      exact ok.elim
    · rintro cdv A outer st H vs Q E hr _ ⟨β, M, xs, rm, rs, ok⟩
      exact ok.elim
  | succ n ih =>
    intro φ f d fa fd hd hf
    obtain ⟨m, h1, rfl, rfl, F, e1, e2⟩ := of_fnA (mg := mg) c hf
    obtain ⟨d', hd', S, sp, hb⟩ := defL s h1
    have hd : fnOf? L.P m.f = some d := hd
    rw [hd] at hd'; cases hd'
    have hnm : d.nm = m.f := by simpa using List.find?_some hd
    rw [← hnm]
    exact body_ok (c := { G := L.G K mg, P := L.P, W := W, n := n }) (T := L.T) (d := d) (by rw [hnm]; exact hd) F S (fun φ => stat_of c s X Gn φ) (fun φ => ih φ) (xin_of c s X Gn hfile htop w base W n) (fun φ wx X' cx hfn => (okS_all ⟨L.P, L.T, d.N⟩ L.fuel).Ss hb rfl cx hfn) φ
end
end Mi
/-! Mini, part Z5: the end. -/
set_option autoImplicit false
set_option linter.all false
namespace Mi
open PySem L2

/-- a law: F gives the written part, the function object, the promise over every base; the script's bits told -/
theorem walk_ofEB {l : W.OpenLaw} {n k : Nat} {q : Program} {loose : List Str} {XP : (Str → Option Value) → Heap → Prop} {YP : World → Heap → Prop} {d : DefRec} {CX' : World → CXT} {x : Str}
    (hn : l.most = some n) (hn2 : n ≤ sizeLine) (hdf : d.params.defaults = []) (hr : Room k callerA)
    (F : ∀ (w : World) (mg : Str → Option Value) (fa : Addr) (h : Heap), YP w h → h.Ns mainGlobals mg → mg d.name = some (.ref fa) →
      ∃ (K : W.Frag) (fd : FuncData) (sp : Sp), K.In h ∧ (∀ (s : Shared) (u : Value), BindsTo s fd ⟨[u], []⟩ [(x, u)]) ∧
        (∀ (H : Hp) (a : Addr) (ns : List Int), ns.length ≤ n → (∀ z ∈ ns, Builtin.Int.intBits z ≤ 1048576) → Only H → SqL K H a (ns.map V.int) → sp [.ref a] H (fun v _ => v = .bl true) fun _ _ _ => False) ∧
        ∀ base : Heap, K.In base → base.Ns mainGlobals mg → FnOk l.prog w K mg base (CX' w) k fa fd [x] sp)
    (hCX : ∀ (w : World) (H : Hp) (s : Shared) (e : Value) (s' : Shared), CX' w [] H s (fun _ _ _ => False) e s' → False) :
    W.WalkO q loose XP YP l.row.toRowW d [] (fun f vs => PySem.call f vs) := by
  refine Att.attach_callB hn hdf fun w s₀ s₁ mg mb fa o pm cd doc a vs ns G Y ho hd hcd hmg hobj hints hlen hbits hg => ?_
  obtain ⟨K, fd, sp, KX, hb, hsp, hF⟩ := F w mg fa _ Y G.T.g hmg
  exact law_call KX G.T.g G.T.b G.T.builtins G.T.nolimit hg hobj hints (Nat.le_trans hlen hn2) hr hF hb (fun H hO hS => hsp H a ns hlen hbits hO hS) fun H e s' => hCX w H s₁ e s'
theorem relM_nil {G : Wd} {H : Hp} (h : G.hid = []) : RelM G [] [] H := ⟨List.nodup_nil, rfl, fun i a o h => by simp at h, by simp, fun b hb => by rw [h] at hb; cases hb⟩
theorem ints_rvs {G : Wd} {β : List Addr} {H : Hp} : ∀ ns : List Int, RVs G β H (ns.map MV.int) (ns.map V.int)
  | [] => rfl
  | n :: ns => ⟨_, _, rfl, rfl, ints_rvs ns⟩
theorem klst_of {G : Wd} {H : Hp} {a : Addr} {xs : List V} (hh : G.hid = []) (h : SqL G.K H a xs) : SLst G [] H a xs := by
  rcases h with h | h
  · exact .inl ⟨⟨by simp, by rw [hh]; simp⟩, h⟩
  · exact .inr h
/-- what is to be shown of Mini's run -/
def MiniHolds (P : MProg) (W n : Nat) : Prop := ∀ ns : List Int, ns.length ≤ 63 → (∀ z ∈ ns, Builtin.Int.intBits z ≤ 1048576) → ∃ M', callF P W n "law" [.scr (ns.map .int)] [] = .ok (.bl true) M'
/-- the law's walk -/
theorem walk_M {l : W.OpenLaw} {L : LawD} {n W : Nat} {q : Program} {loose : List Str} {XP : (Str → Option Value) → Heap → Prop} {d : DefRec} {hn : Nat} {x : Str} (hm : l.most = some 63) (hdf : d.params.defaults = []) (hdn : d.name = ("law" : Str)) (hr : Room (lev n) callerA)
    (s : chkL L = true) (hl : L.T.plain.contains "law" = true) (hps : (fnOf? L.P "law").map (·.ps) = some [x]) (hfile : (l.prog.main.file : Str) = L.file) (htop : (l.prog.main.scope.names.lookup ("super" : Str)).isSome = false) (mini : MiniHolds L.P W n) :
    PySem.W.WalkO q loose XP (hookM hn L).says l.row.toRowW d [] (fun f vs => PySem.call f vs) := by
  refine walk_ofEB (n := 63) (k := lev n) (CX' := fun w => CX l.prog w) (x := x) hm (by rw [sizeLine_eq]; decide) hdf hr ?_ ?_
  · rintro w mg fa h ⟨K, KX, c⟩ G hmg
    rw [hdn] at hmg
    have st := stat_of c s KX G []
    obtain ⟨fa', fd, hfa, hmg'⟩ := st.plain "law" (by simpa using hl)
    have hmg'' : mg "law" = some (.ref fa') := hmg'
    rw [hmg] at hmg''
    cases hmg''
    obtain ⟨d', hd'⟩ := st.fn _ _ _ hfa
    have hps' : d'.ps = [x] := by rw [hd'] at hps; simpa using hps
    refine ⟨K, fd, spM { G := (L.G K mg).with [], P := L.P, W := W, n := n } "law", KX, ?_, ?_, ?_⟩
    · intro sh u
      obtain ⟨m, h1, e0, _, F, e1, e2⟩ := of_fnA (mg := mg) c hfa
      obtain ⟨d2, hd2, S, sp, _⟩ := defL s h1
      rw [e0, hd'] at hd2; cases hd2
      rw [← e1] at sp
      obtain ⟨p1, p2, p3, p4, p5⟩ := simpB_ok sp
      have := bind_simple (fd := fd) (us := [u]) p1 p2 p3 p4 e2 (by rw [p5, hps']; simp) (by rw [p5, hps']; rfl)
      rw [p5, hps'] at this
      exact .of_eq this
    · intro H a ns hlen hbits hO hS
      obtain ⟨M', hM⟩ := mini ns hlen hbits
      refine ⟨[], [], [.scr (ns.map .int)], relM_nil rfl, ⟨_, _, rfl, ⟨a, _, rfl, klst_of rfl hS, ints_rvs ns⟩, rfl⟩, ?_⟩
      show OkR _ _ _ _ (callF L.P W n "law" [.scr (ns.map .int)] []) _
      rw [hM]
      intro β' H' st' rm' y ry
      exact ry
    · intro base KB GB
      have F := fns_of c s KB GB l.prog hfile htop w base W n [] "law" d' fa fd hd' hfa
      rw [hps'] at F
      exact F
  · rintro w H st e s' ⟨a, B, H', cl, dd, _, _, _, _, _, _, _, h⟩
    exact h.elim
end Mi
/-! Plain laws over Mini: memory, calls, loops. -/
set_option autoImplicit false
set_option linter.all false
namespace Mi
open PySem

/-! ### memory: M, and what was made behind it -/
theorem mget {M X : Mem} {i : Nat} : (M ++ X)[M.length + i]? = X[i]? := by
  rw [List.getElem?_append_right (by omega)]; congr 1; omega
theorem mget0 {M X : Mem} : (M ++ X)[M.length]? = X[0]? := by
  rw [List.getElem?_append_right (by omega)]; congr 1; omega
theorem mgetL {M X : Mem} {a : Nat} (h : a < M.length) : (M ++ X)[a]? = M[a]? := List.getElem?_append_left h
theorem mset {M X : Mem} {i : Nat} {o : MO} : (M ++ X).set (M.length + i) o = M ++ X.set i o := by
  rw [List.set_append_right _ _ (by omega)]; congr 2; omega
theorem mset0 {M X : Mem} {o : MO} : (M ++ X).set M.length o = M ++ X.set 0 o := by
  rw [List.set_append_right _ _ (by omega)]; congr 2; omega
theorem msetL {M X : Mem} {a : Nat} {o : MO} (h : a < M.length) : (M ++ X).set a o = M.set a o ++ X := List.set_append_left _ _ h
/-- a stream of draws -/
def St2 (d s : Int) : MO := .lst [.int d, .int s]
def SOk (d s : Int) : Prop := 0 ≤ d ∧ 0 ≤ s ∧ s < 2147483648
/-- the stream at a, and the memory with another one there -/
structure Strm (M : Mem) (a : Nat) : Prop where
  at_ : ∃ d s, M[a]? = some (St2 d s) ∧ SOk d s
theorem Strm.lt {M : Mem} {a : Nat} (h : Strm M a) : a < M.length := by
  obtain ⟨d, s, e, _⟩ := h.at_
  exact (List.getElem?_eq_some_iff.mp e).1
/-- M' is M but for the stream at a -/
structure Drew (M : Mem) (a : Nat) (M' : Mem) : Prop where
  eq : ∃ d s, M' = M.set a (St2 d s) ∧ SOk d s
theorem Drew.len {M M' : Mem} {a : Nat} (h : Drew M a M') : M'.length = M.length := by
  obtain ⟨d, s, rfl, _⟩ := h.eq; simp
theorem Drew.strm {M M' : Mem} {a : Nat} (h : Drew M a M') (l : a < M.length) : Strm M' a := by
  obtain ⟨d, s, rfl, k⟩ := h.eq
  exact ⟨d, s, by rw [List.getElem?_set_self l], k⟩
theorem Drew.ne {M M' : Mem} {a b : Nat} (h : Drew M a M') (n : b ≠ a) : M'[b]? = M[b]? := by
  obtain ⟨d, s, rfl, _⟩ := h.eq
  rw [List.getElem?_set_ne (Ne.symm n)]
theorem Drew.trans {M M1 M2 : Mem} {a : Nat} (h : Drew M a M1) (k : Drew M1 a M2) : Drew M a M2 := by
  obtain ⟨d, s, rfl, _⟩ := h.eq
  obtain ⟨d', s', rfl, q⟩ := k.eq
  exact ⟨d', s', by rw [List.set_set], q⟩
theorem Drew.rfl' {M : Mem} {a : Nat} (h : Strm M a) : Drew M a M := by
  obtain ⟨d, s, e, k⟩ := h.at_
  refine ⟨d, s, ?_, k⟩
  apply List.ext_getElem?
  intro i
  by_cases c : a = i
  · subst c
    rw [List.getElem?_set_self h.lt, e]
  · rw [List.getElem?_set_ne c]
/-- a region that leaves M but for the stream -/
theorem lowM_drew {M M' X : Mem} {a : Nat} (h : Drew M a M') : lowM M.length M (M' ++ X) = true := by
  obtain ⟨d, s, rfl, _⟩ := h.eq
  unfold lowM
  rw [List.all_eq_true]
  intro i hi
  have hi : i < M.length := by simpa using hi
  rw [mgetL (by simpa using hi)]
  by_cases c : a = i
  · subst c
    rw [List.getElem?_set_self hi]
    simp [St2, lowO, lows, low]
  · rw [List.getElem?_set_ne c]; simp
theorem lowM_self {M X : Mem} : lowM M.length M (M ++ X) = true := by
  unfold lowM
  rw [List.all_eq_true]
  intro i hi
  have hi : i < M.length := by simpa using hi
  rw [mgetL hi]; simp
theorem take_drew {M M' X : Mem} {a : Nat} (h : Drew M a M') : (M' ++ X).take M.length = M' := by
  rw [← h.len]; simp
mutual
/-- a value that names no object -/
def noref : MV → Bool
  | .tup xs => norefs xs
  | .fls xs => norefs xs
  | .scr xs => norefs xs
  | .fdc ks vs => norefs ks && norefs vs
  | .obj _ _ vs => norefs vs
  | .exn _ _ vs => norefs vs
  | .ref _ => false
  | .non => true
  | .bl _ => true
  | .int _ => true
  | .str _ => true
def norefs : List MV → Bool
  | [] => true
  | x :: r => noref x && norefs r
end
mutual
theorem frzW_noref {d : Nat → Option MV} : ∀ {v : MV}, noref v = true → frzW d v = some v
  | .tup xs, h => by rw [frzW, frzWs_noref h]; rfl
  | .fls xs, h => by rw [frzW, frzWs_noref h]; rfl
  | .scr xs, h => by rw [frzW, frzWs_noref h]; rfl
  | .fdc ks vs, h => by
    simp only [noref, Bool.and_eq_true] at h
    rw [frzW, frzWs_noref h.1, frzWs_noref h.2]
  | .obj _ _ vs, h => by rw [frzW, frzWs_noref h]; rfl
  | .exn _ _ vs, h => by rw [frzW, frzWs_noref h]; rfl
  | .ref _, h => by cases h
  | .non, _ => rfl
  | .bl _, _ => rfl
  | .int _, _ => rfl
  | .str _, _ => rfl
theorem frzWs_noref {d : Nat → Option MV} : ∀ {vs : List MV}, norefs vs = true → frzWs d vs = some vs
  | [], _ => rfl
  | x :: r, h => by
    simp only [norefs, Bool.and_eq_true] at h
    rw [frzWs, frzW_noref h.1, frzWs_noref h.2]
end
theorem finR_ok {n : Nat} {M M' : Mem} {v : MV} : finR n M (.ok v M') = if lowM n M M' then Res.of (frz n M' v) (M'.take n) else .err := rfl
/-- the end of a region whose value names nothing -/
theorem finR_val {M M' X : Mem} {a : Nat} {v : MV} (h : Drew M a M') (n : noref v = true) : finR M.length M (.ok v (M' ++ X)) = .ok v M' := by
  rw [finR_ok, if_pos (lowM_drew h), take_drew h]
  unfold frz
  rw [frzW_noref n]; rfl
theorem finR_pure {M X : Mem} {v : MV} (n : noref v = true) : finR M.length M (.ok v (M ++ X)) = .ok v M := by
  rw [finR_ok, if_pos lowM_self]
  unfold frz
  rw [frzW_noref n]
  simp [Res.of]
/-- .. of a new list, a new dict -/
theorem finR_lst {M M' X : Mem} {a i : Nat} {xs : List MV} (h : Drew M a M') (hi : X[i]? = some (.lst xs)) (n : norefs xs = true) : finR M.length M (.ok (.ref (M.length + i)) (M' ++ X)) = .ok (.fls xs) M' := by
  rw [finR_ok, if_pos (lowM_drew h), take_drew h]
  have : frz M.length (M' ++ X) (.ref (M.length + i)) = some (.fls xs) := by
    show frzR M.length (M' ++ X) DEEP (M.length + i) = _
    unfold DEEP
    rw [frzR, if_neg (by omega), ← h.len, mget, hi]
    show (frzWs _ xs).map MV.fls = _
    rw [frzWs_noref n]; rfl
  rw [this]; rfl
theorem finR_dct {M M' X : Mem} {a i ep : Nat} {ks vs : List MV} (h : Drew M a M') (hi : X[i]? = some (.dct ep ks vs)) (n : norefs ks = true) (n' : norefs vs = true) : finR M.length M (.ok (.ref (M.length + i)) (M' ++ X)) = .ok (.fdc ks vs) M' := by
  rw [finR_ok, if_pos (lowM_drew h), take_drew h]
  have : frz M.length (M' ++ X) (.ref (M.length + i)) = some (.fdc ks vs) := by
    show frzR M.length (M' ++ X) DEEP (M.length + i) = _
    unfold DEEP
    rw [frzR, if_neg (by omega), ← h.len, mget, hi]
    simp only [frzO]
    rw [frzWs_noref n, frzWs_noref n']
  rw [this]; rfl
theorem finR_lstP {M X : Mem} {i : Nat} {xs : List MV} (hi : X[i]? = some (.lst xs)) (n : norefs xs = true) : finR M.length M (.ok (.ref (M.length + i)) (M ++ X)) = .ok (.fls xs) M := by
  rw [finR_ok, if_pos lowM_self]
  have : frz M.length (M ++ X) (.ref (M.length + i)) = some (.fls xs) := by
    show frzR M.length (M ++ X) DEEP (M.length + i) = _
    unfold DEEP
    rw [frzR, if_neg (by omega), mget, hi]
    show (frzWs _ xs).map MV.fls = _
    rw [frzWs_noref n]; rfl
  rw [this]
  simp [Res.of]

/-! ### calls -/
def outR : Out → Res MV
  | .nx _ M1 => .ok .non M1
  | .rt v M1 => .ok v M1
  | .ex c ns ws _ M1 => .ex c ns ws M1
  | _ => .err
/-- how a body begins -/
def env0 (d : FDef) (vs : List MV) : Env := vs.map some ++ List.replicate (d.N.length - vs.length) none
theorem call_any {P : MProg} {W n : Nat} {f : Str} {d : FDef} {vs : List MV} {M : Mem} (hf : fnOf? P f = some d) (hl : vs.length = d.ps.length) : callF P W (n + 1) f vs M = match d.region with
    | .no => outR (execSs P (callF P W n) W d.body (env0 d vs) M)
    | .frz => finR M.length M (outR (execSs P (callF P W n) W d.body (env0 d vs) M))
    | .keep => finK M.length M (outR (execSs P (callF P W n) W d.body (env0 d vs) M)) := by
  unfold callF
  rw [hf]
  show runF P (callF P W n) W d vs M = _
  unfold runF
  rw [if_pos hl]
  rfl
theorem call_reg {P : MProg} {W n : Nat} {f : Str} {d : FDef} {vs : List MV} {M : Mem} (hf : fnOf? P f = some d) (hl : vs.length = d.ps.length) (hr : d.region = .frz) : callF P W (n + 1) f vs M = finR M.length M (outR (execSs P (callF P W n) W d.body (env0 d vs) M)) := by
  rw [call_any hf hl, hr]
theorem call_pl {P : MProg} {W n : Nat} {f : Str} {d : FDef} {vs : List MV} {M : Mem} (hf : fnOf? P f = some d) (hl : vs.length = d.ps.length) (hr : d.region = .no) : callF P W (n + 1) f vs M = outR (execSs P (callF P W n) W d.body (env0 d vs) M) := by
  rw [call_any hf hl, hr]
theorem call_kp {P : MProg} {W n : Nat} {f : Str} {d : FDef} {vs : List MV} {M : Mem} (hf : fnOf? P f = some d) (hl : vs.length = d.ps.length) (hr : d.region = .keep) : callF P W (n + 1) f vs M = finK M.length M (outR (execSs P (callF P W n) W d.body (env0 d vs) M)) := by
  rw [call_any hf hl, hr]
/-- a region's end that gives a new list back -/
theorem finK_lst {M M' X : Mem} {a i : Nat} {xs : List MV} (h : Drew M a M') (hi : X[i]? = some (.lst xs)) (n : norefs xs = true) : finK M.length M (.ok (.ref (M.length + i)) (M' ++ X)) = .ok (.ref M.length) (M' ++ [.lst xs]) := by
  unfold finK
  have g : (M' ++ X)[M.length + i]? = some (.lst xs) := by rw [← h.len, mget, hi]
  simp only [show M.length ≤ M.length + i from by omega, if_true, lowM_drew h, g, take_drew h]
  unfold frzs
  rw [frzWs_noref n]
theorem finK_dct {M M' X : Mem} {a i ep : Nat} {ks vs : List MV} (h : Drew M a M') (hi : X[i]? = some (.dct ep ks vs)) (n : norefs vs = true) : finK M.length M (.ok (.ref (M.length + i)) (M' ++ X)) = .ok (.ref M.length) (M' ++ [.dct ep ks vs]) := by
  unfold finK
  have g : (M' ++ X)[M.length + i]? = some (.dct ep ks vs) := by rw [← h.len, mget, hi]
  simp only [show M.length ≤ M.length + i from by omega, if_true, lowM_drew h, g, take_drew h]
  unfold frzs
  rw [frzWs_noref n]
theorem finK_lstP {M X : Mem} {i : Nat} {xs : List MV} (hi : X[i]? = some (.lst xs)) (n : norefs xs = true) : finK M.length M (.ok (.ref (M.length + i)) (M ++ X)) = .ok (.ref M.length) (M ++ [.lst xs]) := by
  unfold finK
  have g : (M ++ X)[M.length + i]? = some (.lst xs) := by rw [mget, hi]
  simp only [show M.length ≤ M.length + i from by omega, if_true, lowM_self, g]
  unfold frzs
  rw [frzWs_noref n]
  simp
theorem finK_dctP {M X : Mem} {i ep : Nat} {ks vs : List MV} (hi : X[i]? = some (.dct ep ks vs)) (n : norefs vs = true) : finK M.length M (.ok (.ref (M.length + i)) (M ++ X)) = .ok (.ref M.length) (M ++ [.dct ep ks vs]) := by
  unfold finK
  have g : (M ++ X)[M.length + i]? = some (.dct ep ks vs) := by rw [mget, hi]
  simp only [show M.length ≤ M.length + i from by omega, if_true, lowM_self, g]
  unfold frzs
  rw [frzWs_noref n]
  simp
theorem finK_non {M X : Mem} : finK M.length M (.ok .non (M ++ X)) = .ok .non M := by
  show finR M.length M (.ok .non (M ++ X)) = _
  exact finR_pure rfl
/-- a new list, frozen; a new dict, frozen -/
theorem finR_l1 {M : Mem} {xs : List MV} (n : norefs xs = true) : finR M.length M (.ok (.ref M.length) (M ++ [.lst xs])) = .ok (.fls xs) M := finR_lstP (i := 0) rfl n

/-! ### loops -/
theorem forL_nx {body : MV → Env → Mem → Out} {g : Option (Nat × MO)} {items : List MV} (I : Nat → Env → Mem → Prop) (hg : ∀ i ρ M, I i ρ M → Src.ok g M = true)
    (step : ∀ i x ρ M, items[i]? = some x → I i ρ M → ∃ ρ' M', (body x ρ M = .nx ρ' M' ∨ body x ρ M = .ct ρ' M') ∧ I (i + 1) ρ' M') : ∀ {ρ M}, I 0 ρ M → ∃ ρ' M', forL body g items ρ M = .nx ρ' M' ∧ I items.length ρ' M' := by
  suffices h : ∀ (j : Nat) (ρ : Env) (M : Mem) (rest : List MV), rest = items.drop j → j ≤ items.length → I j ρ M → ∃ ρ' M', forL body g rest ρ M = .nx ρ' M' ∧ I items.length ρ' M' by
    intro ρ M h0
    exact h 0 ρ M items rfl (Nat.zero_le _) h0
  intro j ρ M rest
  induction rest generalizing j ρ M with
  | nil =>
    intro hr hj hI
    have : j = items.length := by
      have := congrArg List.length hr
      simp at this; omega
    subst this
    refine ⟨ρ, M, ?_, hI⟩
    rw [forL, if_pos (hg _ _ _ hI)]
  | cons x rest ih =>
    intro hr hj hI
    have hlt : j < items.length := by
      have := congrArg List.length hr
      simp at this; omega
    rw [List.drop_eq_getElem_cons hlt] at hr
    injection hr with h1 h2
    obtain ⟨ρ1, M1, hb, hI1⟩ := step j x ρ M (by rw [h1]; exact List.getElem?_eq_getElem hlt) hI
    obtain ⟨ρ2, M2, h3, h4⟩ := ih (j + 1) ρ1 M1 h2 (by omega) hI1
    refine ⟨ρ2, M2, ?_, h4⟩
    rw [forL, if_pos (hg _ _ _ hI)]
    rcases hb with hb | hb <;> rw [hb] <;> exact h3
theorem whileL_nx {test : Env → Mem → Res Bool} {body : Env → Mem → Out} (I : Nat → Env → Mem → Prop) (D : Env → Mem → Prop)
    (step : ∀ m ρ M, I m ρ M → (∃ M1, test ρ M = .ok false M1 ∧ D ρ M1) ∨ ∃ M1, test ρ M = .ok true M1 ∧ ∃ ρ' M' m', (body ρ M1 = .nx ρ' M' ∨ body ρ M1 = .ct ρ' M') ∧ I m' ρ' M' ∧ m' < m) : ∀ {W m : Nat} {ρ : Env} {M : Mem}, I m ρ M → m < W → ∃ ρ' M', whileL test body W ρ M = .nx ρ' M' ∧ D ρ' M' := by
  intro W
  induction W with
  | zero => intro m ρ M _ h; omega
  | succ W ih =>
    intro m ρ M hI hm
    rcases step m ρ M hI with ⟨M1, h1, h2⟩ | ⟨M1, h1, ρ', M', m', hb, hI', hm'⟩
    · refine ⟨ρ, M1, ?_, h2⟩
      rw [whileL, h1]
    · obtain ⟨ρ2, M2, h3, h4⟩ := ih hI' (by omega)
      refine ⟨ρ2, M2, ?_, h4⟩
      rw [whileL, h1]
      rcases hb with hb | hb <;> simp only [hb] <;> exact h3
/-- a comprehension that changes nothing -/
theorem compL_map {body : MV → Mem → Res (Option MV)} {M : Mem} (f : MV → Option MV) : ∀ {xs : List MV}, (∀ x ∈ xs, body x M = .ok (f x) M) → compL body none xs M = .ok (xs.filterMap f) M
  | [], _ => by rw [compL]; rfl
  | x :: r, h => by
    rw [compL, if_pos (by rfl), h x (List.mem_cons_self ..)]
    simp only
    rw [compL_map f fun y hy => h y (List.mem_cons_of_mem _ hy)]
    simp only [List.filterMap_cons]
    cases f x <;> rfl
end Mi
/-! Plain laws: Mini's equations (not by rfl: simp then keeps the kernel out of the recursor). -/
set_option autoImplicit false
set_option linter.all false
namespace Mi
open PySem
/-- one turn of a for -/
def forB (P : MProg) (cal : Cal) (W : Nat) (t : MT) (a : List MS) : MV → Env → Mem → Out := fun x ρ M => .ofR ρ (asgT P cal t x ρ M) fun ρ1 M1 => execSs P cal W a ρ1 M1
/-- the test of a while -/
def whT (P : MProg) (cal : Cal) (t : ME) : Env → Mem → Res Bool := fun ρ M => (evalE P cal t ρ M).bind fun x M1 => Res.of (truth M1 x) M1
/-- one turn of a comprehension -/
def lcB (P : MProg) (cal : Cal) (ρ : Env) (tg : MT) (cs : List ME) (e : ME) : MV → Mem → Res (Option MV) := fun x M => (asgT P cal tg x (wipeE ρ (tgVars tg)) M).bind fun ρ1 M1 => (evalCs P cal cs ρ1 M1).bind fun b M2 => if b then (evalE P cal e ρ1 M2).bind fun y M3 => .ok (some y) M3 else .ok none M2
section
variable {P : MProg} {cal : Cal} {W : Nat} {ρ : Env} {M : Mem}
theorem ev_lit {v : MV} : evalE P cal (.lit v) ρ M = .ok v M := by rw [evalE]
theorem ev_glo {x : Str} {v : MV} : evalE P cal (.glo x v) ρ M = .ok v M := by rw [evalE]
theorem ev_var {i : Nat} {v : MV} (h : ρ[i]? = some (some v)) : evalE P cal (.var i) ρ M = .ok v M := by rw [evalE, h]
theorem ev_bin {op : Operator} {a b : ME} : evalE P cal (.bin op a b) ρ M = (evalE P cal a ρ M).bind fun x M1 => (evalE P cal b ρ M1).bind fun y M2 => Res.of (binM M2 op x y) M2 := by rw [evalE]
theorem ev_neg {a : ME} : evalE P cal (.neg a) ρ M = (evalE P cal a ρ M).bind fun x M1 => (match x with
    | .int i => .ok (.int (-i)) M1
    | _ => .err) := by rw [evalE] <;> congr
theorem ev_not {a : ME} : evalE P cal (.notE a) ρ M = (evalE P cal a ρ M).bind fun x M1 => Res.of ((truth M1 x).map fun b => .bl (!b)) M1 := by
  rw [evalE]; congr 1; funext x M1; cases truth M1 x <;> rfl
theorem ev_and {a b : ME} : evalE P cal (.andE a b) ρ M = (evalE P cal a ρ M).bind fun x M1 => (match truth M1 x with
    | some true => evalE P cal b ρ M1
    | some false => .ok x M1
    | none => .err) := by rw [evalE] <;> congr
theorem ev_or {a b : ME} : evalE P cal (.orE a b) ρ M = (evalE P cal a ρ M).bind fun x M1 => (match truth M1 x with
    | some true => .ok x M1
    | some false => evalE P cal b ρ M1
    | none => .err) := by rw [evalE] <;> congr
theorem ev_cmp {op : CmpOp} {a b : ME} : evalE P cal (.cmp op a b) ρ M = (evalE P cal a ρ M).bind fun x M1 => (evalE P cal b ρ M1).bind fun y M2 => noEx (compare P cal op x y M2) := by rw [evalE]
theorem ev_cmp2 {o p : CmpOp} {a b c : ME} : evalE P cal (.cmp2 o p a b c) ρ M = (evalE P cal a ρ M).bind fun x M1 => (evalE P cal b ρ M1).bind fun y M2 => (noEx (compare P cal o x y M2)).bind fun r M3 => (match r with
    | .bl true => (evalE P cal c ρ M3).bind fun z M4 => noEx (compare P cal p y z M4)
    | .bl false => .ok (.bl false) M3
    | _ => .err) := by rw [evalE] <;> congr
theorem ev_if {t a b : ME} : evalE P cal (.ifE t a b) ρ M = (evalE P cal t ρ M).bind fun x M1 => (match truth M1 x with
    | some true => evalE P cal a ρ M1
    | some false => evalE P cal b ρ M1
    | none => .err) := by rw [evalE] <;> congr
theorem ev_tup {es : List MA} : evalE P cal (.tupE es) ρ M = (evalAs P cal es ρ M).bind fun xs M1 => if xs.length ≤ LINE then .ok (.tup xs) M1 else .err := by rw [evalE]
theorem ev_lst {es : List MA} : evalE P cal (.lstE es) ρ M = (evalAs P cal es ρ M).bind fun xs M1 => if xs.length ≤ LINE then .ok (.fls xs) M1 else .err := by rw [evalE]
theorem ev_dct0 : evalE P cal (.dctE []) ρ M = .ok (.fdc [] []) M := by
  rw [evalE, evalPs]; rfl
theorem ev_box {e : ME} : evalE P cal (.box e) ρ M = (evalE P cal e ρ M).bind boxM := by rw [evalE]
theorem ev_idx {a b : ME} : evalE P cal (.idx a b) ρ M = (evalE P cal a ρ M).bind fun x M1 => (evalE P cal b ρ M1).bind fun y M2 => Res.of (idxM M2 x y) M2 := by rw [evalE]
theorem ev_fld {a : ME} {f : Str} : evalE P cal (.fld a f) ρ M = (evalE P cal a ρ M).bind fun x M1 => getFld P cal x f M1 := by rw [evalE]
theorem ev_call {f : Str} {as : List ME} : evalE P cal (.call f as) ρ M = (evalEs P cal as ρ M).bind fun vs M1 => cal f vs M1 := by rw [evalE]
theorem ev_callK {f : Str} {as : List ME} {how : List MB} : evalE P cal (.callK f as how) ρ M = (evalEs P cal as ρ M).bind fun vs M1 => (match bindArgs vs how with
    | some ws => cal f ws M1
    | none => .err) := by rw [evalE] <;> congr
theorem ev_meth {o : ME} {m : Str} {as : List ME} : evalE P cal (.meth o m as) ρ M = (evalE P cal o ρ M).bind fun x M1 => (match methOf P M1 x m with
    | some f => (evalEs P cal as ρ M1).bind fun vs M2 => cal f (x :: vs) M2
    | none => .err) := by rw [evalE] <;> congr
theorem ev_methK {o : ME} {m : Str} {as : List ME} {how : List MB} : evalE P cal (.methK o m as how) ρ M = (evalE P cal o ρ M).bind fun x M1 => (match methOf P M1 x m with
    | some f => (evalEs P cal as ρ M1).bind fun vs M2 => (match bindArgs vs how with
      | some ws => cal f (x :: ws) M2
      | none => .err)
    | none => .err) := by rw [evalE] <;> congr
theorem ev_bm {o : ME} {k : BM} {as : List ME} : evalE P cal (.bm o k as) ρ M = (evalE P cal o ρ M).bind fun x M1 => if bmOk M1 x k then (evalEs P cal as ρ M1).bind fun vs M2 => noEx (bmM M2 x k vs) else .err := by rw [evalE]
theorem ev_new {f : Str} {as : List ME} : evalE P cal (.new f as) ρ M = (evalEs P cal as ρ M).bind fun vs M1 => make P cal f vs M1 := by rw [evalE]
theorem ev_newK {f : Str} {as : List ME} {how : List MB} : evalE P cal (.newK f as how) ρ M = (evalEs P cal as ρ M).bind fun vs M1 => (match bindArgs vs how with
    | some ws => make P cal f ws M1
    | none => .err) := by rw [evalE] <;> congr
theorem ev_bi {b : Str} {as : List ME} : evalE P cal (.bi b as) ρ M = (evalEs P cal as ρ M).bind fun vs M1 => Res.of (biM M1 b vs) M1 := by rw [evalE] <;> rfl
theorem ev_lcomp {e : ME} {tg : MT} {it : MI} {cs : List ME} : evalE P cal (.lcomp e tg it cs) ρ M = (evalI P cal it ρ M).bind fun s M1 =>
    (compL (lcB P cal ρ tg cs e) s.guard s.items M1).bind fun ys M2 =>
      if ys.length ≤ LINE then .ok (.fls ys) M2 else .err := by rw [evalE] <;> rfl
theorem ev_isinst {a : ME} {t : String} : evalE P cal (.isinst a t) ρ M = (evalE P cal a ρ M).bind fun x M1 => Res.of ((isT t M1 x).map .bl) M1 := by rw [evalE]
theorem ev_isown {a : ME} {t : Str} : evalE P cal (.isown a t) ρ M = (evalE P cal a ρ M).bind fun x M1 => (match fields M1 x with
    | some (c, _, _) => if c = t ∧ (clsOf P c).isSome then .ok (.bl true) M1 else .err
    | none => if (tyNm M1 x).isSome then .ok (.bl false) M1 else .err) := by rw [evalE] <;> congr
theorem ev_frz {e : ME} : evalE P cal (.frzE e) ρ M = finR M.length M (evalE P cal e ρ M) := by rw [evalE]
theorem ev_lvals {e : ME} : evalE P cal (.lvals e) ρ M = (evalE P cal e ρ M).bind fun x M1 => (match dict? M1 x with
    | some (_, vs) => .ok (.fls vs) M1
    | none => .err) := by rw [evalE] <;> congr
theorem ev_lenO {e : ME} : evalE P cal (.lenO e) ρ M = (evalE P cal e ρ M).bind fun x M1 => (match special P M1 x "__len__" with
    | some f => (noEx (cal f [x] M1)).bind fun r M2 => (match r with
      | .int i => if 0 ≤ i ∧ i < 4611686018427387904 then .ok (.int i) M2 else .err
      | _ => .err)
    | none => .err) := by rw [evalE] <;> congr
theorem ev_lock0 {i : Nat} {e : ME} {v : MV} (h : ρ[i]? = some (some v)) (nr : ∀ a, v ≠ .ref a) : evalE P cal (.lock i e) ρ M = evalE P cal e ρ M := by
  rw [evalE, h]
  cases v <;> first | rfl | exact absurd rfl (nr _)
theorem ev_lock1 {i a ep : Nat} {e : ME} {ks vs : List MV} (h : ρ[i]? = some (some (.ref a))) (g : M[a]? = some (.dct ep ks vs)) : evalE P cal (.lock i e) ρ M = (match evalE P cal e ρ (M.set a (.lck ks vs)) with
        | .ok v M1 => if M1[a]? = some (.lck ks vs) then .ok v (M1.set a (.dct ep ks vs)) else .err
        | _ => .err) := by
  rw [evalE, h]
  simp only [g]
  all_goals rfl
theorem evs_nil : evalEs P cal [] ρ M = .ok [] M := by rw [evalEs]
theorem evs_cons {e : ME} {r : List ME} : evalEs P cal (e :: r) ρ M = (evalE P cal e ρ M).bind fun x M1 => (evalEs P cal r ρ M1).bind fun xs M2 => .ok (x :: xs) M2 := by rw [evalEs]
theorem evas_nil : evalAs P cal [] ρ M = .ok [] M := by rw [evalAs]
theorem evas_e {m : ME} {r : List MA} : evalAs P cal (.e m :: r) ρ M = (evalE P cal m ρ M).bind fun x M1 => (evalAs P cal r ρ M1).bind fun xs M2 => .ok (x :: xs) M2 := by rw [evalAs]
theorem evas_star {m : ME} {r : List MA} : evalAs P cal (.star m :: r) ρ M = (evalE P cal m ρ M).bind fun x M1 => (match starV M1 x with
    | some ys => (evalAs P cal r ρ M1).bind fun xs M2 => .ok (ys ++ xs) M2
    | none => .err) := by rw [evalAs] <;> congr
theorem evc_nil : evalCs P cal [] ρ M = .ok true M := by rw [evalCs]
theorem evc_one {e : ME} : evalCs P cal [e] ρ M = (evalE P cal e ρ M).bind fun x M1 => Res.of (truth M1 x) M1 := by
  rw [evalCs]; congr 1; funext x M1
  cases truth M1 x with
  | none => rfl
  | some b => cases b with
    | true => simp only; rw [evalCs]; rfl
    | false => rfl
theorem evi_val {e : ME} : evalI P cal (.val e) ρ M = (evalE P cal e ρ M).bind fun x M1 => Res.of (srcV M1 x) M1 := by
  rw [evalI]; congr 1; funext x M1; cases srcV M1 x <;> rfl
theorem evi_range {es : List ME} : evalI P cal (.range es) ρ M = (evalEs P cal es ρ M).bind fun vs M1 => Res.of ((rangeOf vs).map fun xs => ⟨xs, none⟩) M1 := by
  rw [evalI]; congr 1; funext x M1; cases rangeOf x <;> rfl
theorem as_var {i : Nat} {v : MV} (h : i < ρ.length) : asgT P cal (.var i) v ρ M = .ok (ρ.set i (some v)) M := by rw [asgT, if_pos h]
theorem as_tup {ts : List MT} {xs : List MV} (h : xs.length = ts.length) : asgT P cal (.tup ts) (.tup xs) ρ M = asgTs P cal ts xs ρ M := by rw [asgT, if_pos h]
theorem as_idx {o i : ME} {v : MV} : asgT P cal (.idx o i) v ρ M = (evalE P cal o ρ M).bind fun x M1 => (evalE P cal i ρ M1).bind fun y M2 => (match setM M2 x y v with
    | some M3 => .ok ρ M3
    | none => .err) := by rw [asgT] <;> congr
theorem as_fld {o : ME} {f : Str} {v : MV} : asgT P cal (.fld o f) v ρ M = (evalE P cal o ρ M).bind fun x M1 => if fldOk P M1 x f then (match fldSet M1 x f v with
    | some M2 => .ok ρ M2
    | none => .err) else .err := by rw [asgT] <;> congr
theorem ass_nil : asgTs P cal [] [] ρ M = .ok ρ M := by rw [asgTs]
theorem ass_cons {t : MT} {ts : List MT} {x : MV} {xs : List MV} : asgTs P cal (t :: ts) (x :: xs) ρ M = (asgT P cal t x ρ M).bind fun ρ1 M1 => asgTs P cal ts xs ρ1 M1 := by rw [asgTs]
theorem ex_asg {t : MT} {e : ME} : execS P cal W (.asg t e) ρ M = .ofR ρ (evalE P cal e ρ M) fun v M1 => .ofR ρ (asgT P cal t v ρ M1) fun ρ1 M2 => .nx ρ1 M2 := by rw [execS]
theorem ex_expr {e : ME} : execS P cal W (.expr e) ρ M = .ofR ρ (evalE P cal e ρ M) fun _ M1 => .nx ρ M1 := by rw [execS]
theorem ex_ret {e : ME} : execS P cal W (.ret e) ρ M = .ofR ρ (evalE P cal e ρ M) fun v M1 => .rt v M1 := by rw [execS]
theorem ex_if {t : ME} {a b : List MS} : execS P cal W (.ifS t a b) ρ M = .ofR ρ (evalE P cal t ρ M) fun x M1 => (match truth M1 x with
    | some true => execSs P cal W a ρ M1
    | some false => execSs P cal W b ρ M1
    | none => .err) := by rw [execS] <;> congr
theorem ex_while {t : ME} {a : List MS} : execS P cal W (.whileS t a) ρ M = whileL (whT P cal t) (execSs P cal W a) W ρ M := by
  unfold whT
  rw [execS]; congr 1; funext ρ M; congr 1; funext x M1; cases truth M1 x <;> rfl
theorem ex_for {t : MT} {it : MI} {a : List MS} : execS P cal W (.forS t it a) ρ M = .ofR ρ (evalI P cal it ρ M) fun s M1 => forL (forB P cal W t a) s.guard s.items ρ M1 := by rw [execS] <;> rfl
theorem exs_nil : execSs P cal W [] ρ M = .nx ρ M := by rw [execSs]
theorem exs_cons {s : MS} {r : List MS} : execSs P cal W (s :: r) ρ M = (match execS P cal W s ρ M with
    | .nx ρ1 M1 => execSs P cal W r ρ1 M1
    | o => o) := by rw [execSs] <;> congr
theorem rb_ok {α β : Type} {a : α} {f : α → Mem → Res β} : (Res.ok a M).bind f = f a M := by rw [Res.bind]
theorem ro_ok {α : Type} {a : α} {f : α → Mem → Out} : Out.ofR ρ (.ok a M) f = f a M := by rw [Out.ofR]
theorem rof_some {α : Type} {a : α} : Res.of (some a) M = .ok a M := by rw [Res.of]
theorem ne_ok {α : Type} {a : α} : noEx (.ok a M) = .ok a M := by rw [noEx]; intro _ _ _ _ h; cases h
end
end Mi
namespace Mi
open PySem
/-! ### values -/
theorem bin_int {M : Mem} {op : Operator} {i j : Int} : binM M op (.int i) (.int j) = (binI op i j).map .int := by rw [binM]
theorem bin_str {M : Mem} {x y : Str} (h : x.length + y.length ≤ LINE) : binM M .Add (.str x) (.str y) = some (.str (x ++ y)) := by
  rw [binM]; simp [h]
theorem ix_nn {n : Nat} {i : Nat} (h : i < n) : ixN n (i : Int) = some i := by
  unfold ixN
  rw [if_pos (by omega), if_pos (by omega)]; simp
theorem ix_last {n : Nat} (h : 0 < n) : ixN n (-1) = some (n - 1) := by
  unfold ixN
  rw [if_neg (by omega), if_pos (by omega)]
  congr 1
  omega
theorem idx_ref {M : Mem} {a : Nat} {xs : List MV} {i : Int} (h : M[a]? = some (.lst xs)) : idxM M (.ref a) (.int i) = (ixN xs.length i).bind fun j => xs[j]? := by
  unfold idxM view; simp only [h]
theorem idx_fls {M : Mem} {xs : List MV} {i : Int} : idxM M (.fls xs) (.int i) = (ixN xs.length i).bind fun j => xs[j]? := by
  unfold idxM view; rfl
theorem idx_scr {M : Mem} {xs : List MV} {i : Int} : idxM M (.scr xs) (.int i) = (ixN xs.length i).bind fun j => xs[j]? := by
  unfold idxM view; rfl
theorem idx_tup {M : Mem} {xs : List MV} {i : Int} : idxM M (.tup xs) (.int i) = (ixN xs.length i).bind fun j => xs[j]? := by
  unfold idxM view; rfl
theorem idx_fdc {M : Mem} {ks vs : List MV} {k : MV} (h : isK k = true) : idxM M (.fdc ks vs) k = dget ks vs k := by
  unfold idxM view; simp only [h, if_true]
theorem set_ref {M : Mem} {a : Nat} {xs : List MV} {i : Int} {v : MV} (h : M[a]? = some (.lst xs)) : setM M (.ref a) (.int i) v = (ixN xs.length i).map fun k => M.set a (.lst (xs.set k v)) := by
  unfold setM; simp only [h]; rfl
theorem set_dct {M : Mem} {a ep : Nat} {ks vs : List MV} {k v : MV} (h : M[a]? = some (.dct ep ks vs)) (hk : isK k = true) (hl : ks.length < LINE) : setM M (.ref a) k v = some (M.set a (.dct (ep + 1) (dput1 ks vs k v).1 (dput1 ks vs k v).2)) := by
  unfold setM; simp only [h, hk, hl, and_self, if_true]; rfl
theorem cp_ge {P : MProg} {cal : Cal} {M : Mem} {i j : Int} : compare P cal .GtE (.int i) (.int j) M = .ok (.bl (decide (j ≤ i))) M := by
  unfold compare; rfl
theorem cp_gt {P : MProg} {cal : Cal} {M : Mem} {i j : Int} : compare P cal .Gt (.int i) (.int j) M = .ok (.bl (decide (j < i))) M := by
  unfold compare; rfl
theorem cp_le {P : MProg} {cal : Cal} {M : Mem} {i j : Int} : compare P cal .LtE (.int i) (.int j) M = .ok (.bl (decide (i ≤ j))) M := by
  unfold compare; rfl
theorem cp_lt {P : MProg} {cal : Cal} {M : Mem} {i j : Int} : compare P cal .Lt (.int i) (.int j) M = .ok (.bl (decide (i < j))) M := by
  unfold compare; rfl
theorem tr_bl {M : Mem} {b : Bool} : truth M (.bl b) = some b := by rw [truth]
theorem lg0 {α : Type} {a : α} {r : List α} : (a :: r)[0]? = some a := by simp
theorem lgS {α : Type} {a : α} {r : List α} {i : Nat} : (a :: r)[i + 1]? = r[i]? := by simp
theorem om_some {α β : Type} {f : α → β} {a : α} : (some a).map f = some (f a) := by simp
theorem ob_some {α β : Type} {f : α → Option β} {a : α} : (some a).bind f = f a := by simp
end Mi
namespace Mi
open PySem
/-! ### comparisons of texts and lists of texts -/
theorem shp_str {s : Str} (h : PyData.strOk s = true) : SeqAt.shaped (.str s) = true := by
  unfold SeqAt.shaped; simp [PyData.canLay0, PyData.depth, h]
theorem sp_str {P : MProg} {M : Mem} {s m : Str} : special P M (.str s) m = none := by rw [special, fields]; all_goals (intros; contradiction)
/-- data is no own instance -/
theorem sp_dat {P : MProg} {M : Mem} {v : MV} {d : PyData} {m : Str} (h : dat1 M v = some d) : special P M v m = none := by
  have : fields M v = none := by
    cases v with
    | ref a =>
      rw [dat1] at h
      rw [fields]
      cases g : M[a]? with
      | none => rfl
      | some o =>
        rw [g] at h
        cases o <;> first | rfl | cases h
    | obj _ _ _ => cases h
    | exn _ _ _ => cases h
    | _ => rw [fields]; all_goals (intros; contradiction)
  unfold special; rw [this]
theorem eqM_str {M : Mem} {x y : Str} (hx : PyData.strOk x = true) (hy : PyData.strOk y = true) : eqM M (.str x) (.str y) = some (x == y) := by
  unfold eqM
  simp only [dat1, pd, shp_str hx, shp_str hy, Bool.and_self, Bool.true_or, if_true, PyData.eqv]
theorem cp_ne_str {P : MProg} {cal : Cal} {M : Mem} {x y : Str} (hx : PyData.strOk x = true) (hy : PyData.strOk y = true) : compare P cal .NotEq (.str x) (.str y) M = .ok (.bl (!(x == y))) M := by
  unfold compare
  simp only [sp_str, cmpP, eqM_str hx hy, Option.map_some, Res.of]
theorem cp_eq_str {P : MProg} {cal : Cal} {M : Mem} {x y : Str} (hx : PyData.strOk x = true) (hy : PyData.strOk y = true) : compare P cal .Eq (.str x) (.str y) M = .ok (.bl (x == y)) M := by
  unfold compare
  simp only [special, fields, cmpP, eqM_str hx hy, Option.map_some, Res.of]
theorem pds_strs : ∀ l : List Str, pds (l.map MV.str) = some (l.map PyData.str)
  | [] => rfl
  | x :: l => by simp [pds, pd, pds_strs l]
theorem shp_strs {l : List Str} (h : ∀ x ∈ l, PyData.strOk x = true) : SeqAt.shaped (.list (l.map PyData.str)) = true := by
  have h1 : PyData.canLayAll0 (l.map PyData.str) = true := by
    induction l with
    | nil => rfl
    | cons x l ih =>
      simp only [List.map_cons, PyData.canLayAll0, PyData.canLay0, h x (List.mem_cons_self ..), Bool.true_and]
      exact ih fun y hy => h y (List.mem_cons_of_mem _ hy)
  have h2 : PyData.depthAll (l.map PyData.str) = 0 := by
    clear h h1
    induction l with
    | nil => rfl
    | cons x l ih => simp [PyData.depthAll, PyData.depth, ih]
  unfold SeqAt.shaped
  simp [PyData.canLay0, PyData.depth, h1, h2]
theorem eqvAll_strs : ∀ (l m : List Str), PyData.eqvAll (l.map PyData.str) (m.map PyData.str) = decide (l = m)
  | [], [] => rfl
  | [], _ :: _ => by simp [PyData.eqvAll]
  | _ :: _, [] => by simp [PyData.eqvAll]
  | x :: l, y :: m => by
    simp only [List.map_cons, PyData.eqvAll, PyData.eqv, eqvAll_strs l m]
    by_cases c : x = y <;> simp [c]
/-- v is a list of these texts -/
def IsStrs (M : Mem) (v : MV) (l : List Str) : Prop := v = .fls (l.map .str) ∨ ∃ a, v = .ref a ∧ M[a]? = some (.lst (l.map .str))
theorem IsStrs.dat {M : Mem} {v : MV} {l : List Str} (h : IsStrs M v l) : dat1 M v = some (.list (l.map .str)) := by
  rcases h with rfl | ⟨a, rfl, e⟩
  · simp [dat1, pd, pds_strs]
  · simp [dat1, e, pds_strs]
theorem eqM_strs {M : Mem} {v w : MV} {l m : List Str} (hv : IsStrs M v l) (hw : IsStrs M w m) (h1 : ∀ x ∈ l, PyData.strOk x = true) (h2 : ∀ x ∈ m, PyData.strOk x = true) : eqM M v w = some (decide (l = m)) := by
  unfold eqM
  rw [hv.dat, hw.dat]
  simp only [shp_strs h1, shp_strs h2, Bool.and_self, Bool.true_or, if_true, PyData.eqv, eqvAll_strs]
theorem cp_ne_strs {P : MProg} {cal : Cal} {M : Mem} {v w : MV} {l m : List Str} (hv : IsStrs M v l) (hw : IsStrs M w m) (h1 : ∀ x ∈ l, PyData.strOk x = true) (h2 : ∀ x ∈ m, PyData.strOk x = true) : compare P cal .NotEq v w M = .ok (.bl (!decide (l = m))) M := by
  unfold compare
  simp only [sp_dat hv.dat, cmpP, eqM_strs hv hw h1 h2, Option.map_some, Res.of]
end Mi
namespace Mi
open PySem
section
variable {test : Env → Mem → Res Bool} {body : Env → Mem → Out} {W : Nat} {ρ ρ1 : Env} {M M1 M2 : Mem} {v : MV}
theorem while_nx (t : test ρ M = .ok true M1) (b : body ρ M1 = .nx ρ1 M2) : whileL test body (W + 1) ρ M = whileL test body W ρ1 M2 := by
  rw [whileL, t]; simp only [b]
theorem while_ct (t : test ρ M = .ok true M1) (b : body ρ M1 = .ct ρ1 M2) : whileL test body (W + 1) ρ M = whileL test body W ρ1 M2 := by
  rw [whileL, t]; simp only [b]
theorem while_rt (t : test ρ M = .ok true M1) (b : body ρ M1 = .rt v M2) : whileL test body (W + 1) ρ M = .rt v M2 := by
  rw [whileL, t]; simp only [b]
theorem while_end (t : test ρ M = .ok false M1) : whileL test body (W + 1) ρ M = .nx ρ M1 := by
  rw [whileL, t]
end
end Mi
/-! Plain laws: the stream of draws. -/
set_option autoImplicit false
set_option linter.all false
namespace Mi
open PySem

def drawB : List MS := [.ifS (.cmp .GtE (.idx (.var 0) (.lit (.int 0))) (.var 1)) [.asg (.var 2) (.bin .Mod (.idx (.var 0) (.lit (.int 0))) (.var 1)),
  .asg (.idx (.var 0) (.lit (.int 0))) (.bin .FloorDiv (.idx (.var 0) (.lit (.int 0))) (.var 1)),
  .ret (.var 2)] [],
  .asg (.idx (.var 0) (.lit (.int 1))) (.bin .Mod (.bin .Add (.bin .Mult (.idx (.var 0) (.lit (.int 1))) (.lit (.int 48271))) (.lit (.int 12345))) (.lit (.int 2147483647))),
  .ret (.bin .Mod (.bin .FloorDiv (.bin .Mod (.bin .Pow (.bin .Mod (.bin .Pow (.idx (.var 0) (.lit (.int 1))) (.lit (.int 3))) (.lit (.int 2147483629))) (.lit (.int 5))) (.lit (.int 1000000007))) (.lit (.int 7))) (.var 1))]
structure FnIs (P : MProg) (f : Str) (b : List MS) (ps N : Nat) (r : Rg) : Prop where
  is : ∃ d, fnOf? P f = some d ∧ d.body = b ∧ d.ps.length = ps ∧ d.N.length = N ∧ d.region = r
theorem FnIs.reg {P : MProg} {f : Str} {b : List MS} {ps N : Nat} (h : FnIs P f b ps N .frz) {W n : Nat} {vs : List MV} {M : Mem} (hl : vs.length = ps) : callF P W (n + 1) f vs M = finR M.length M (outR (execSs P (callF P W n) W b (vs.map some ++ List.replicate (N - vs.length) none) M)) := by
  obtain ⟨d, h1, rfl, rfl, rfl, h5⟩ := h.is
  exact call_reg h1 hl h5
theorem FnIs.pl {P : MProg} {f : Str} {b : List MS} {ps N : Nat} (h : FnIs P f b ps N .no) {W n : Nat} {vs : List MV} {M : Mem} (hl : vs.length = ps) : callF P W (n + 1) f vs M = outR (execSs P (callF P W n) W b (vs.map some ++ List.replicate (N - vs.length) none) M) := by
  obtain ⟨d, h1, rfl, rfl, rfl, h5⟩ := h.is
  exact call_pl h1 hl h5
theorem FnIs.kp {P : MProg} {f : Str} {b : List MS} {ps N : Nat} (h : FnIs P f b ps N .keep) {W n : Nat} {vs : List MV} {M : Mem} (hl : vs.length = ps) : callF P W (n + 1) f vs M = finK M.length M (outR (execSs P (callF P W n) W b (vs.map some ++ List.replicate (N - vs.length) none) M)) := by
  obtain ⟨d, h1, rfl, rfl, rfl, h5⟩ := h.is
  exact call_kp h1 hl h5
theorem bits_of {i : Int} {m : Nat} (h : i.natAbs < 2 ^ m) : Builtin.Int.intBits i ≤ m := PySem.intBits_le_iff.mpr h
theorem mulOk_of {i j : Int} {m n : Nat} (hi : Builtin.Int.intBits i ≤ m) (hj : Builtin.Int.intBits j ≤ n) (h : m + n ≤ 134217728) : mulOk i j = true := by
  unfold mulOk
  simp only [decide_eq_true_eq]
  omega
theorem pow2ok_of {i : Int} {m k : Nat} (hi : Builtin.Int.intBits i ≤ m) (h : m * k ≤ 134217728) : pow2ok i (k : Int) = true := by
  unfold pow2ok
  simp only [Bool.and_eq_true, decide_eq_true_eq]
  refine ⟨by omega, ?_⟩
  have : Builtin.Int.intBits i * k ≤ m * k := Nat.mul_le_mul_right _ hi
  have h2 : Builtin.Int.intBits i * k ≤ 134217728 := Nat.le_trans this h
  have h3 : ((Builtin.Int.intBits i * k : Nat) : Int) ≤ ((134217728 : Nat) : Int) := Int.ofNat_le.mpr h2
  rw [Int.natCast_mul] at h3
  exact h3
theorem fmod_pos {a b : Int} (h : 0 < b) : 0 ≤ a.fmod b ∧ a.fmod b < b := ⟨Int.fmod_nonneg_of_pos _ h, Int.fmod_lt_of_pos _ h⟩
theorem divOk_of {k : Int} (h1 : 0 < k) (h2 : k < 1073741824) : divOk k = true := by
  unfold divOk
  rw [Bool.and_eq_true, decide_eq_true_eq, decide_eq_true_eq]
  exact ⟨by omega, by omega⟩
theorem binI_mod {i j : Int} (h : j ≠ 0) : binI .Mod i j = some (i.fmod j) := by unfold binI; simp [h]
theorem binI_fdiv {i j : Int} (h : divOk j = true) : binI .FloorDiv i j = some (i.fdiv j) := by unfold binI; simp [h]
theorem binI_mul {i j : Int} (h : mulOk i j = true) : binI .Mult i j = some (i * j) := by unfold binI; simp [h]
theorem binI_pow {i j : Int} (h : pow2ok i j = true) : binI .Pow i j = some (i ^ j.toNat) := by unfold binI; simp [h]
theorem binI_add {i j : Int} : binI .Add i j = some (i + j) := rfl
theorem binI_sub {i j : Int} : binI .Sub i j = some (i - j) := rfl
theorem draw_ok {P : MProg} {W n : Nat} {M : Mem} {a : Nat} {k : Int} (h : FnIs P "_law_draw" drawB 2 3 .frz) (s : Strm M a) (h1 : 0 < k) (h2 : k < 1073741824) : ∃ (r : Nat) (M' : Mem), callF P W (n + 1) "_law_draw" [.ref a, .int k] M = .ok (.int r) M' ∧ (r : Int) < k ∧ Drew M a M' := by
  obtain ⟨d, sd, e, hd, hs, hs2⟩ := s.at_
  unfold St2 at e
  have hlt := s.lt
  have hk : k ≠ 0 := by omega
  have i0 : ixN 2 0 = some 0 := rfl
  have i1 : ixN 2 1 = some 1 := rfl
  have len2 : ∀ x y : MV, [x, y].length = 2 := fun _ _ => rfl
  have env : ([MV.ref a, MV.int k].map some ++ List.replicate (3 - [MV.ref a, MV.int k].length) none) = [some (.ref a), some (.int k), none] := rfl
  rw [h.reg rfl, env]
  by_cases c : k ≤ d
  · have hm := fmod_pos (a := d) h1
    have dr : Drew M a (M.set a (St2 (d.fdiv k) sd)) := ⟨_, _, rfl, Int.fdiv_nonneg hd (by omega), hs, hs2⟩
    refine ⟨(d.fmod k).toNat, M.set a (St2 (d.fdiv k) sd), ?_, ?_, dr⟩
    · have : execSs P (callF P W n) W drawB [some (.ref a), some (.int k), none] M = .rt (.int (d.fmod k)) (M.set a (St2 (d.fdiv k) sd) ++ []) := by
        unfold drawB
        simp only [exs_cons, ex_if, ex_asg, ex_ret, ev_cmp, ev_idx, ev_lit, ev_bin, as_idx, rb_ok, ro_ok, rof_some, ne_ok, ev_var lg0, ev_var (lgS.trans lg0), ev_var (lgS.trans (lgS.trans lg0)), as_var, idx_ref e, set_ref e, len2, i0, lg0, cp_ge, tr_bl, decide_eq_true c, bin_int, binI_mod hk, binI_fdiv (divOk_of h1 h2), om_some, ob_some, List.length_cons, List.length_nil, Nat.reduceLT, Nat.reduceAdd, List.set_cons_succ, List.set_cons_zero, St2, List.append_nil]
      rw [this, show (((d.fmod k).toNat : Nat) : Int) = d.fmod k by omega]
      exact finR_val dr rfl
    · omega
  · have b1 : Builtin.Int.intBits sd ≤ 31 := bits_of (by omega)
    have b2 : mulOk sd 48271 = true := mulOk_of b1 (bits_of (m := 31) (by decide)) (by decide)
    obtain ⟨x0, e0⟩ : ∃ x, binI .Mult sd 48271 = some x := ⟨_, binI_mul b2⟩
    obtain ⟨x1, e1⟩ : ∃ x, binI .Add x0 12345 = some x := ⟨_, binI_add⟩
    obtain ⟨s', e2, p0⟩ : ∃ x, binI .Mod x1 2147483647 = some x ∧ 0 ≤ x ∧ x < 2147483647 := ⟨_, binI_mod (by decide), fmod_pos (by decide)⟩
    obtain ⟨x3, e3⟩ : ∃ x, binI .Pow s' 3 = some x := ⟨_, binI_pow (pow2ok_of (k := 3) (bits_of (m := 31) (by omega)) (by decide))⟩
    obtain ⟨q, e4, p1⟩ : ∃ x, binI .Mod x3 2147483629 = some x ∧ 0 ≤ x ∧ x < 2147483629 := ⟨_, binI_mod (by decide), fmod_pos (by decide)⟩
    obtain ⟨x5, e5⟩ : ∃ x, binI .Pow q 5 = some x := ⟨_, binI_pow (pow2ok_of (k := 5) (bits_of (m := 31) (by omega)) (by decide))⟩
    obtain ⟨x6, e6⟩ : ∃ x, binI .Mod x5 1000000007 = some x := ⟨_, binI_mod (by decide)⟩
    obtain ⟨x7, e7⟩ : ∃ x, binI .FloorDiv x6 7 = some x := ⟨_, binI_fdiv (by decide)⟩
    obtain ⟨u, e8, hm⟩ : ∃ x, binI .Mod x7 k = some x ∧ 0 ≤ x ∧ x < k := ⟨_, binI_mod hk, fmod_pos h1⟩
    have dr : Drew M a (M.set a (St2 d s')) := ⟨_, _, rfl, hd, by omega, by omega⟩
    refine ⟨u.toNat, M.set a (St2 d s'), ?_, ?_, dr⟩
    · have : execSs P (callF P W n) W drawB [some (.ref a), some (.int k), none] M = .rt (.int u) (M.set a (St2 d s') ++ []) := by
        have es : (M.set a (.lst [.int d, .int s']))[a]? = some (.lst [.int d, .int s']) := List.getElem?_set_self hlt
        unfold drawB
        simp only [exs_cons, exs_nil, ex_if, ex_asg, ex_ret, ev_cmp, ev_idx, ev_lit, ev_bin, as_idx, rb_ok, ro_ok, rof_some, ne_ok, ev_var lg0, ev_var (lgS.trans lg0), idx_ref e, idx_ref es, set_ref e, len2, i0, i1, lg0, lgS, cp_ge, tr_bl, decide_eq_false c, bin_int, e0, e1, e2, e3, e4, e5, e6, e7, e8, om_some, ob_some, List.set_cons_succ, List.set_cons_zero, St2, List.append_nil]
      rw [this, show ((u.toNat : Nat) : Int) = u by omega]
      exact finR_val dr rfl
    · omega
def chooseB : List MS := [.ret (.idx (.var 1) (.call "_law_draw" [(.var 0), (.bi "len" [(.var 1)])]))]
structure Draws (P : MProg) : Prop where
  draw : FnIs P "_law_draw" drawB 2 3 .frz
  choose : FnIs P "_law_choose" chooseB 2 2 .frz
theorem len_fls {M : Mem} {xs : List MV} : biM M "len" [.fls xs] = some (.int xs.length) := by
  have : biM M "len" [.fls xs] = biLen M [.fls xs] := by unfold biM; rw [if_pos rfl]
  rw [this]; unfold biLen view; rfl
theorem len_ref {M : Mem} {b : Nat} {xs : List MV} (h : M[b]? = some (.lst xs)) : biM M "len" [.ref b] = some (.int xs.length) := by
  have : biM M "len" [.ref b] = biLen M [.ref b] := by unfold biM; rw [if_pos rfl]
  rw [this]; unfold biLen view; simp only [h]
theorem len_str {M : Mem} {s : Str} (h : s.length ≤ LINE) : biM M "len" [.str s] = some (.int s.length) := by
  have : biM M "len" [.str s] = biLen M [.str s] := by unfold biM; rw [if_pos rfl]
  rw [this]; unfold biLen view; simp only [h, if_true]
theorem len_fdc {M : Mem} {ks vs : List MV} : biM M "len" [.fdc ks vs] = some (.int ks.length) := by
  have : biM M "len" [.fdc ks vs] = biLen M [.fdc ks vs] := by unfold biM; rw [if_pos rfl]
  rw [this]; unfold biLen view; rfl
theorem len_dct {M : Mem} {b ep : Nat} {ks vs : List MV} (h : M[b]? = some (.dct ep ks vs)) : biM M "len" [.ref b] = some (.int ks.length) := by
  have : biM M "len" [.ref b] = biLen M [.ref b] := by unfold biM; rw [if_pos rfl]
  rw [this]; unfold biLen view; simp only [h]
theorem choose_gen {P : MProg} {W n : Nat} {M : Mem} {a : Nat} {v : MV} {k : Nat} (h : Draws P) (s : Strm M a) (hl : biM M "len" [v] = some (.int k)) (h1 : 0 < k) (h2 : k < 1073741824)
    (hi : ∀ (r : Nat) (M' : Mem), r < k → Drew M a M' → ∃ x, idxM M' v (.int r) = some x ∧ noref x = true) : ∃ (r : Nat) (x : MV) (M' : Mem), callF P W (n + 2) "_law_choose" [.ref a, v] M = .ok x M' ∧ r < k ∧ Drew M a M' ∧ idxM M' v (.int r) = some x := by
  obtain ⟨r, M', h3, h4, h5⟩ := draw_ok (W := W) (n := n) (k := (k : Int)) h.draw s (by omega) (by omega)
  obtain ⟨x, h6, h7⟩ := hi r M' (by omega) h5
  refine ⟨r, x, M', ?_, by omega, h5, h6⟩
  rw [h.choose.reg rfl]
  have : execSs P (callF P W (n + 1)) W chooseB [some (.ref a), some v] M = .rt x (M' ++ []) := by
    unfold chooseB
    simp only [exs_cons, ex_ret, ev_idx, ev_call, evs_cons, evs_nil, ev_bi, rb_ok, ro_ok, rof_some, ev_var lg0, ev_var (lgS.trans lg0), hl, h3, h6, List.append_nil]
  have env : ([MV.ref a, v].map some ++ List.replicate (2 - [MV.ref a, v].length) none) = [some (.ref a), some v] := rfl
  rw [env, this]
  exact finR_val h5 h7
theorem choose_fls {P : MProg} {W n : Nat} {M : Mem} {a : Nat} {xs : List MV} (h : Draws P) (s : Strm M a) (h1 : xs ≠ []) (h2 : xs.length < 1073741824) (hn : norefs xs = true) : ∃ (x : MV) (M' : Mem), callF P W (n + 2) "_law_choose" [.ref a, .fls xs] M = .ok x M' ∧ x ∈ xs ∧ Drew M a M' := by
  have h0 : 0 < xs.length := List.length_pos_iff.mpr h1
  have nm : ∀ (ys : List MV) (i : Nat) (x : MV), norefs ys = true → ys[i]? = some x → noref x = true := by
    intro ys
    induction ys with
    | nil => intro i x _ h; simp at h
    | cons y ys ih =>
      intro i x hn h
      simp only [norefs, Bool.and_eq_true] at hn
      cases i with
      | zero => simp at h; subst h; exact hn.1
      | succ i => exact ih i x hn.2 (by simpa using h)
  have at' : ∀ (r : Nat) (M' : Mem), r < xs.length → idxM M' (.fls xs) (.int r) = xs[r]? := by
    intro r M' hr
    rw [idx_fls, ix_nn hr]; rfl
  obtain ⟨r, x, M', h3, h4, h5, h6⟩ := choose_gen (W := W) (n := n) h s len_fls h0 h2 fun r M' hr _ => ⟨xs[r], by rw [at' r M' hr]; exact List.getElem?_eq_getElem hr, nm xs r _ hn (List.getElem?_eq_getElem hr)⟩
  rw [at' r M' h4] at h6
  exact ⟨x, M', h3, List.mem_of_getElem? h6, h5⟩
theorem norefs_at : ∀ {ys : List MV} {x : MV}, norefs ys = true → x ∈ ys → noref x = true
  | y :: ys, x, hn, h => by
    simp only [norefs, Bool.and_eq_true] at hn
    rcases List.mem_cons.mp h with rfl | h
    · exact hn.1
    · exact norefs_at hn.2 h
theorem choose_ref {P : MProg} {W n : Nat} {M : Mem} {a b : Nat} {xs : List MV} (h : Draws P) (s : Strm M a) (hb : M[b]? = some (.lst xs)) (hne : b ≠ a) (h1 : xs ≠ []) (h2 : xs.length < 1073741824) (hn : norefs xs = true) : ∃ (x : MV) (M' : Mem), callF P W (n + 2) "_law_choose" [.ref a, .ref b] M = .ok x M' ∧ x ∈ xs ∧ Drew M a M' := by
  have h0 : 0 < xs.length := List.length_pos_iff.mpr h1
  have at' : ∀ (r : Nat) (M' : Mem), r < xs.length → Drew M a M' → idxM M' (.ref b) (.int r) = xs[r]? := by
    intro r M' hr dr
    rw [idx_ref (xs := xs) (by rw [dr.ne hne]; exact hb), ix_nn hr]; rfl
  obtain ⟨r, x, M', h3, h4, h5, h6⟩ := choose_gen (W := W) (n := n) h s (len_ref hb) h0 h2 fun r M' hr dr => ⟨xs[r], by rw [at' r M' hr dr]; exact List.getElem?_eq_getElem hr, norefs_at hn (List.getElem_mem hr)⟩
  rw [at' r M' h4 h5] at h6
  exact ⟨x, M', h3, List.mem_of_getElem? h6, h5⟩
/-! ### the stream begins -/
def streamB : List MS := [.asg (.var 2) (.bin .Add (.lit (.int 71)) (.var 1)),
  .forS (.var 3) (.val (.var 0)) [.asg (.var 2) (.bin .Add (.bin .Mod (.bin .Pow (.bin .Add (.bin .Mult (.var 2) (.lit (.int 40127))) (.var 3)) (.lit (.int 3))) (.lit (.int 2147483629))) (.lit (.int 1)))],
  .asg (.var 4) (.lit (.int 0)),
  .ifS (.andE (.cmp .Lt (.var 1) (.bi "len" [(.var 0)])) (.cmp .GtE (.idx (.var 0) (.var 1)) (.bin .Pow (.lit (.int 10)) (.lit (.int 18))))) [.asg (.var 4) (.bin .Sub (.idx (.var 0) (.var 1)) (.bin .Pow (.lit (.int 10)) (.lit (.int 18))))] [],
  .ret (.box (.lstE [.e (.var 4), .e (.var 2)]))]
theorem lgSS {α : Type} {a b : α} {r : List α} {i : Nat} : (a :: b :: r)[i + 2]? = r[i]? := by simp
theorem len_scr {M : Mem} {xs : List MV} : biM M "len" [.scr xs] = some (.int xs.length) := by
  have : biM M "len" [.scr xs] = biLen M [.scr xs] := by unfold biM; rw [if_pos rfl]
  rw [this]; unfold biLen view; rfl
theorem stream_ok {P : MProg} {W n : Nat} {M : Mem} {ns : List Int} {st : Nat} (h : FnIs P "_law_stream" streamB 2 5 .no) (hs : st < 1000) (hb : ∀ z ∈ ns, Builtin.Int.intBits z ≤ 1048576) : ∃ d s, SOk d s ∧ callF P W (n + 1) "_law_stream" [.scr (ns.map .int), .int st] M = .ok (.ref M.length) (M ++ [St2 d s]) := by
  have env : ([MV.scr (ns.map .int), MV.int st].map some ++ List.replicate (5 - [MV.scr (ns.map .int), MV.int st].length) none) = [some (.scr (ns.map .int)), some (.int st), none, none, none] := rfl
  rw [h.pl rfl, env]
  obtain ⟨s0, q0, q1⟩ : ∃ x, binI .Add 71 (st : Int) = some x ∧ 0 ≤ x ∧ x < 2147483648 := ⟨_, binI_add, by omega, by omega⟩
  have src : ∀ M : Mem, srcV M (.scr (ns.map .int)) = some ⟨ns.map .int, none⟩ := fun _ => by rw [srcV]
  have step : ∀ (s z : Int), 0 ≤ s → s < 2147483648 → z ∈ ns → ∃ x1 x2 x3 x4 x5, binI .Mult s 40127 = some x1 ∧ binI .Add x1 z = some x2 ∧ binI .Pow x2 3 = some x3 ∧ binI .Mod x3 2147483629 = some x4 ∧ binI .Add x4 1 = some x5 ∧ 0 ≤ x5 ∧ x5 < 2147483648 := by
    intro s z h1 h2 hz
    have b1 : Builtin.Int.intBits s ≤ 31 := bits_of (by omega)
    have b2 := intBits_mul_le b1 (bits_of (i := 40127) (m := 16) (by decide))
    have b3 := intBits_add_le b2 (hb z hz)
    have b4 : pow2ok (s * 40127 + z) 3 = true := pow2ok_of (k := 3) b3 (by decide)
    have p := fmod_pos (a := (s * 40127 + z) ^ (3 : Int).toNat) (b := 2147483629) (by decide)
    exact ⟨_, _, _, _, _, binI_mul (mulOk_of b1 (bits_of (m := 16) (by decide)) (by decide)), binI_add, binI_pow b4, binI_mod (by decide), binI_add, by omega, by omega⟩
  obtain ⟨ρ', M', hL, s1, z1, e1, rfl, p1, p2⟩ := forL_nx (body := forB P (callF P W n) W (.var 3) [.asg (.var 2) (.bin .Add (.bin .Mod (.bin .Pow (.bin .Add (.bin .Mult (.var 2) (.lit (.int 40127))) (.var 3)) (.lit (.int 3))) (.lit (.int 2147483629))) (.lit (.int 1)))]) (g := none) (items := ns.map MV.int)
    (fun _ ρ M' => ∃ (s : Int) (z : Option MV), ρ = [some (.scr (ns.map .int)), some (.int st), some (.int s), z, none] ∧ M' = M ∧ 0 ≤ s ∧ s < 2147483648) (fun _ _ _ _ => rfl)
    (by
      rintro i x ρ M' hx ⟨s, z0, rfl, rfl, h1, h2⟩
      simp only [List.getElem?_map, Option.map_eq_some_iff] at hx
      obtain ⟨z, hz, rfl⟩ := hx
      obtain ⟨x1, x2, x3, x4, x5, e1, e2, e3, e4, e5, p1, p2⟩ := step s z h1 h2 (List.mem_of_getElem? hz)
      refine ⟨_, _, .inl ?_, x5, some (.int z), rfl, rfl, p1, p2⟩
      unfold forB
      simp only [as_var, exs_cons, exs_nil, ex_asg, ev_bin, ev_lit, rb_ok, ro_ok, rof_some, ev_var (lgSS.trans lg0), ev_var (lgSS.trans (lgS.trans lg0)), bin_int, e1, e2, e3, e4, e5, om_some, List.length_cons, List.length_nil, Nat.reduceLT, Nat.reduceAdd, List.set_cons_succ, List.set_cons_zero])
    (ρ := [some (.scr (ns.map .int)), some (.int st), some (.int s0), none, none]) (M := M) ⟨s0, none, rfl, rfl, q1⟩
  subst e1
  have fin : ∀ d : Int, 0 ≤ d → SOk d s1 ∧ outR (execSs P (callF P W n) W [.ret (.box (.lstE [.e (.var 4), .e (.var 2)]))] [some (.scr (ns.map .int)), some (.int st), some (.int s1), z1, some (.int d)] M') = .ok (.ref M'.length) (M' ++ [St2 d s1]) := by
    intro d hd
    have l2 : [MV.int d, MV.int s1].length ≤ LINE := by simp [LINE]
    refine ⟨⟨hd, p1, p2⟩, ?_⟩
    simp only [exs_cons, ex_ret, ev_box, ev_lst, evas_e, evas_nil, rb_ok, ro_ok, ev_var (lgSS.trans lg0), ev_var (lgSS.trans (lgSS.trans lg0)), l2, if_true]
    rfl
  have pw : binI .Pow 10 18 = some (1000000000000000000) := by
    have := binI_pow (i := 10) (j := 18) (pow2ok_of (k := 18) (bits_of (m := 4) (by decide)) (by decide))
    rw [this]; rfl
  have body : ∃ d, 0 ≤ d ∧ execSs P (callF P W n) W streamB [some (.scr (ns.map .int)), some (.int st), none, none, none] M' = execSs P (callF P W n) W [.ret (.box (.lstE [.e (.var 4), .e (.var 2)]))] [some (.scr (ns.map .int)), some (.int st), some (.int s1), z1, some (.int d)] M' := by
    unfold streamB
    by_cases c : st < ns.length
    · have hi : ∀ M : Mem, idxM M (.scr (ns.map .int)) (.int st) = some (.int ns[st]) := by
        intro M
        rw [idx_scr, ix_nn (by simpa using c)]
        simp [c]
      by_cases c2 : (1000000000000000000 : Int) ≤ ns[st]
      · obtain ⟨d, e, hd⟩ : ∃ d, binI .Sub ns[st] 1000000000000000000 = some d ∧ 0 ≤ d := ⟨_, binI_sub, by omega⟩
        have c' : decide ((st : Int) < ((ns.map MV.int).length : Nat)) = true := by simp; omega
        refine ⟨d, hd, ?_⟩
        simp only [exs_cons, exs_nil, ex_asg, ex_for, evi_val, src, ev_bin, ev_lit, ev_and, ev_cmp, ev_idx, ev_bi, evs_cons, evs_nil, len_scr, ex_if, as_var, rb_ok, ro_ok, rof_some, ne_ok, ev_var lg0, ev_var (lgS.trans lg0), bin_int, q0, om_some, hL, pw, hi, cp_lt, cp_ge, c', c2, decide_true, tr_bl, e, List.length_cons, List.length_nil, Nat.reduceLT, Nat.reduceAdd, List.set_cons_succ, List.set_cons_zero]
      · have c' : decide ((st : Int) < ((ns.map MV.int).length : Nat)) = true := by simp; omega
        refine ⟨0, Int.le_refl _, ?_⟩
        simp only [exs_cons, exs_nil, ex_asg, ex_for, evi_val, src, ev_bin, ev_lit, ev_and, ev_cmp, ev_idx, ev_bi, evs_cons, evs_nil, len_scr, ex_if, as_var, rb_ok, ro_ok, rof_some, ne_ok, ev_var lg0, ev_var (lgS.trans lg0), bin_int, q0, om_some, hL, pw, hi, cp_lt, cp_ge, c', c2, decide_false, tr_bl, List.length_cons, List.length_nil, Nat.reduceLT, Nat.reduceAdd, List.set_cons_succ, List.set_cons_zero]
    · have c' : decide ((st : Int) < ((ns.map MV.int).length : Nat)) = false := by simp; omega
      refine ⟨0, Int.le_refl _, ?_⟩
      simp only [exs_cons, exs_nil, ex_asg, ex_for, evi_val, src, ev_bin, ev_lit, ev_and, ev_cmp, ev_bi, evs_cons, evs_nil, len_scr, ex_if, as_var, rb_ok, ro_ok, rof_some, ne_ok, ev_var lg0, ev_var (lgS.trans lg0), bin_int, q0, om_some, hL, cp_lt, c', tr_bl, List.length_cons, List.length_nil, Nat.reduceLT, Nat.reduceAdd, List.set_cons_succ, List.set_cons_zero]
  obtain ⟨d, hd, hbody⟩ := body
  rw [hbody]
  exact ⟨d, s1, fin d hd⟩
end Mi
set_option autoImplicit false
set_option linter.all false
set_option maxRecDepth 100000
namespace P_k03
open PySem Mi
def b_law : List MS := [.asg (.var 1) (.call "_law_stream" [(.var 0), (.lit (.int 0))]),
  .asg (.tup [(.var 7), (.var 8)]) (.tupE [.e (.call "_law_choose" [(.var 1), (.lstE [.e (.box (.lstE [.e (.lit (.int 1)), .e (.lit (.str "a"))])), .e (.box (.lstE [.e (.lstE [.e (.lit (.str "b"))])])), .e (.box (.lstE [.e (.lit .non), .e (.lit (.int 7))]))])]), .e (.call "_law_choose" [(.var 1), (.lstE [.e (.lit (.str "food")), .e (.lit (.str "ann")), .e (.lit (.str "all"))])])]),
  .asg (.var 2) (.lstE [.e (.lit (.str "BadName")), .e (.lit (.str "BadTree")), .e (.lit (.str "BadSheet")), .e (.lit (.str "BadNumber")), .e (.lit (.str "BadBill")), .e (.lit (.str "BadCents")), .e (.lit (.str "BadText")), .e (.lit (.str "UnknownSum"))]),
  .asg (.var 3) (.lstE [.e (.lit (.str "UnknownName")), .e (.lit (.str "TakenName")), .e (.lit (.str "InUse")), .e (.lit (.str "Contrary")), .e (.lit (.str "Paid")), .e (.lit (.str "NotPaid")), .e (.lit (.str "BadCommand")), .e (.lit (.str "NothingToDo"))]),
  .asg (.tup [(.var 9), (.var 10)]) (.tupE [.e (.tupE [.e (.var 8), .e (.call "_law_choose" [(.var 1), (.lstE [.e (.lit (.str "ann")), .e (.lit (.str "ben"))])])]), .e (.call "_law_choose" [(.var 1), (.lstE [.e (.lit (.str "undo")), .e (.lit (.str "redo"))])])]),
  .asg (.var 4) (.lstE [.e (.var 7), .e (.var 8), .e (.var 8), .e (.var 9), .e (.var 9), .e (.var 9), .e (.var 7), .e (.var 10)]),
  .forS (.var 5) (.range [(.lit (.int 8))]) [.asg (.var 11) (.box (.lstE [.e (.tupE [.e (.call "_law_caught" [(.var 5), (.var 7)]), .e (.var 7), .e (.idx (.var 2) (.var 5))])])),
  .expr (.bm (.var 11) .append [(.tupE [.e (.call "_law_named" [(.var 5), (.idx (.var 4) (.var 5))]), .e (.idx (.var 4) (.var 5)), .e (.idx (.var 3) (.var 5))])]),
  .forS (.tup [(.var 14), (.var 15), (.var 16)]) (.val (.var 11)) [.ifS (.cmp .NotEq (.call "_law_kind" [(.var 14)]) (.lstE [.e (.var 16)])) [.ret (.lit (.bl false))] [],
  .expr (.bm (.var 7) .append [(.var 5)]),
  .ifS (.cmp .NotEq (.bi "repr" [(.call "_law_kept" [(.var 14), (.var 16)])]) (.bi "repr" [(.var 15)])) [.ret (.lit (.bl false))] []]],
  .asg (.tup [(.var 12), (.var 13), (.var 14)]) (.tupE [.e (.box (.lstE [.e (.tupE [.e (.lit (.str "a")), .e (.lit (.str "all"))])])), .e (.box (.lstE [])), .e (.lit .non)]),
  .tryS [.raise "Clash" [(.var 12), (.var 13)]] [.mk ["BillError"] (some 6) [.asg (.var 14) (.var 6)]],
  .expr (.bm (.var 12) .append [(.tupE [.e (.lit (.str "b")), .e (.lit (.str "all"))])]),
  .expr (.bm (.var 13) .append [(.tupE [.e (.lit (.str "c")), .e (.lit (.str "all"))])]),
  .ifS (.orE (.cmp .NotEq (.call "_law_kind" [(.var 14)]) (.lstE [.e (.lit (.str "Clash"))])) (.orE (.cmp .NotEq (.xfld (.var 14) "plus") (.var 12)) (.cmp .NotEq (.xfld (.var 14) "minus") (.var 13)))) [.ret (.lit (.bl false))] [],
  .ret (.callK "_law_names_right" [] [])]
def f_law : FDef := { nm := "law", ps := ["_law_script"], N := ["_law_script", "_law_stream_here", "_law_words", "_law_others", "_law_given", "_law_turn", "error", "_law_thing", "_law_word", "_law_spot", "_law_deed", "_law_pairs", "_law_first", "_law_second", "_law_caught_here", "_law_due", "_law_kind_here"], body := b_law, region := .no }
def b_law_stream : List MS := [.asg (.var 2) (.bin .Add (.lit (.int 71)) (.var 1)),
  .forS (.var 3) (.val (.var 0)) [.asg (.var 2) (.bin .Add (.bin .Mod (.bin .Pow (.bin .Add (.bin .Mult (.var 2) (.lit (.int 40127))) (.var 3)) (.lit (.int 3))) (.lit (.int 2147483629))) (.lit (.int 1)))],
  .asg (.var 4) (.lit (.int 0)),
  .ifS (.andE (.cmp .Lt (.var 1) (.bi "len" [(.var 0)])) (.cmp .GtE (.idx (.var 0) (.var 1)) (.bin .Pow (.lit (.int 10)) (.lit (.int 18))))) [.asg (.var 4) (.bin .Sub (.idx (.var 0) (.var 1)) (.bin .Pow (.lit (.int 10)) (.lit (.int 18))))] [],
  .ret (.box (.lstE [.e (.var 4), .e (.var 2)]))]
def f_law_stream : FDef := { nm := "_law_stream", ps := ["_law_script", "_law_start"], N := ["_law_script", "_law_start", "_law_seed", "_law_number", "_law_digits"], body := b_law_stream, region := .no }
def b_law_choose : List MS := [.ret (.idx (.var 1) (.call "_law_draw" [(.var 0), (.bi "len" [(.var 1)])]))]
def f_law_choose : FDef := { nm := "_law_choose", ps := ["_law_stream_here", "_law_items"], N := ["_law_stream_here", "_law_items"], body := b_law_choose, region := .frz }
def b_law_caught : List MS := [.asg (.var 2) (.lit .non),
  .tryS [.ifS (.cmp .Eq (.var 0) (.lit (.int 0))) [.raise "BadName" [(.var 1)]] [],
  .ifS (.cmp .Eq (.var 0) (.lit (.int 1))) [.raise "BadTree" [(.var 1)]] [],
  .ifS (.cmp .Eq (.var 0) (.lit (.int 2))) [.raise "BadSheet" [(.var 1)]] [],
  .ifS (.cmp .Eq (.var 0) (.lit (.int 3))) [.raise "BadNumber" [(.var 1)]] [],
  .ifS (.cmp .Eq (.var 0) (.lit (.int 4))) [.raise "BadBill" [(.var 1)]] [],
  .ifS (.cmp .Eq (.var 0) (.lit (.int 5))) [.raise "BadCents" [(.var 1)]] [],
  .ifS (.cmp .Eq (.var 0) (.lit (.int 6))) [.raise "BadText" [(.var 1)]] [],
  .raise "UnknownSum" [(.var 1)]] [.mk ["BillError"] (some 3) [.asg (.var 2) (.var 3)]],
  .ret (.var 2)]
def f_law_caught : FDef := { nm := "_law_caught", ps := ["_law_way", "_law_thing"], N := ["_law_way", "_law_thing", "_law_found", "error"], body := b_law_caught, region := .frz }
def b_law_named : List MS := [.asg (.var 2) (.lit .non),
  .tryS [.ifS (.cmp .Eq (.var 0) (.lit (.int 0))) [.raise "UnknownName" [(.var 1)]] [],
  .ifS (.cmp .Eq (.var 0) (.lit (.int 1))) [.raise "TakenName" [(.var 1)]] [],
  .ifS (.cmp .Eq (.var 0) (.lit (.int 2))) [.raise "InUse" [(.var 1)]] [],
  .ifS (.cmp .Eq (.var 0) (.lit (.int 3))) [.raise "Contrary" [(.var 1)]] [],
  .ifS (.cmp .Eq (.var 0) (.lit (.int 4))) [.raise "Paid" [(.var 1)]] [],
  .ifS (.cmp .Eq (.var 0) (.lit (.int 5))) [.raise "NotPaid" [(.var 1)]] [],
  .ifS (.cmp .Eq (.var 0) (.lit (.int 6))) [.raise "BadCommand" [(.var 1)]] [],
  .raise "NothingToDo" [(.var 1)]] [.mk ["BillError"] (some 3) [.asg (.var 2) (.var 3)]],
  .ret (.var 2)]
def f_law_named : FDef := { nm := "_law_named", ps := ["_law_way", "_law_thing"], N := ["_law_way", "_law_thing", "_law_found", "error"], body := b_law_named, region := .frz }
def b_law_kind : List MS := [.asg (.var 1) (.lstE [.e (.tupE [.e (.lit (.str "BadName")), .e (.xis (.var 0) "BadName")]), .e (.tupE [.e (.lit (.str "BadTree")), .e (.xis (.var 0) "BadTree")])]),
  .asg (.var 1) (.bin .Add (.var 1) (.lstE [.e (.tupE [.e (.lit (.str "BadSheet")), .e (.xis (.var 0) "BadSheet")]), .e (.tupE [.e (.lit (.str "BadNumber")), .e (.xis (.var 0) "BadNumber")])])),
  .asg (.var 1) (.bin .Add (.var 1) (.lstE [.e (.tupE [.e (.lit (.str "BadBill")), .e (.xis (.var 0) "BadBill")]), .e (.tupE [.e (.lit (.str "BadCents")), .e (.xis (.var 0) "BadCents")])])),
  .asg (.var 1) (.bin .Add (.var 1) (.lstE [.e (.tupE [.e (.lit (.str "BadText")), .e (.xis (.var 0) "BadText")]), .e (.tupE [.e (.lit (.str "UnknownSum")), .e (.xis (.var 0) "UnknownSum")])])),
  .asg (.var 1) (.bin .Add (.var 1) (.lstE [.e (.tupE [.e (.lit (.str "UnknownName")), .e (.xis (.var 0) "UnknownName")]), .e (.tupE [.e (.lit (.str "TakenName")), .e (.xis (.var 0) "TakenName")])])),
  .asg (.var 1) (.bin .Add (.var 1) (.lstE [.e (.tupE [.e (.lit (.str "InUse")), .e (.xis (.var 0) "InUse")]), .e (.tupE [.e (.lit (.str "Contrary")), .e (.xis (.var 0) "Contrary")])])),
  .asg (.var 1) (.bin .Add (.var 1) (.lstE [.e (.tupE [.e (.lit (.str "Paid")), .e (.xis (.var 0) "Paid")]), .e (.tupE [.e (.lit (.str "NotPaid")), .e (.xis (.var 0) "NotPaid")])])),
  .asg (.var 1) (.bin .Add (.var 1) (.lstE [.e (.tupE [.e (.lit (.str "BadCommand")), .e (.xis (.var 0) "BadCommand")]), .e (.tupE [.e (.lit (.str "Clash")), .e (.xis (.var 0) "Clash")])])),
  .asg (.var 1) (.bin .Add (.var 1) (.lstE [.e (.tupE [.e (.lit (.str "NothingToDo")), .e (.xis (.var 0) "NothingToDo")])])),
  .asg (.var 2) (.lcomp (.var 3) (.tup [(.var 3), (.var 4)]) (.val (.var 1)) [(.var 4)]),
  .ret (.ifE (.andE (.xis (.var 0) "BillError") (.xisV (.var 0))) (.var 2) (.lstE []))]
def f_law_kind : FDef := { nm := "_law_kind", ps := ["_law_caught_here"], N := ["_law_caught_here", "_law_told", "_law_found", "_law_word", "_law_is_kind"], body := b_law_kind, region := .frz }
def b_law_kept : List MS := [.ifS (.cmp .In (.var 1) (.tupE [.e (.lit (.str "UnknownName")), .e (.lit (.str "TakenName")), .e (.lit (.str "InUse"))])) [.ret (.xfld (.var 0) "name")] [],
  .ifS (.cmp .In (.var 1) (.tupE [.e (.lit (.str "Contrary")), .e (.lit (.str "Paid")), .e (.lit (.str "NotPaid"))])) [.ret (.xfld (.var 0) "cell")] [],
  .ifS (.cmp .Eq (.var 1) (.lit (.str "BadCommand"))) [.ret (.xfld (.var 0) "command")] [],
  .ret (.ifE (.cmp .Eq (.var 1) (.lit (.str "NothingToDo"))) (.xfld (.var 0) "action") (.xfld (.var 0) "value"))]
def f_law_kept : FDef := { nm := "_law_kept", ps := ["_law_caught_here", "_law_word"], N := ["_law_caught_here", "_law_word"], body := b_law_kept, region := .frz }
def b_law_names_right : List MS := [.asg (.var 0) (.lstE [.e (.xfld (.newX "BadName" [(.lit (.int 1))] [.arg 0]) "value"), .e (.xfld (.newX "BadTree" [(.lit (.int 2))] [.arg 0]) "value"), .e (.xfld (.newX "BadSheet" [(.lit (.int 3))] [.arg 0]) "value"), .e (.xfld (.newX "BadNumber" [(.lit (.int 4))] [.arg 0]) "value")]),
  .asg (.var 0) (.bin .Add (.var 0) (.lstE [.e (.xfld (.newX "BadBill" [(.lit (.int 5))] [.arg 0]) "value"), .e (.xfld (.newX "BadCents" [(.lit (.int 6))] [.arg 0]) "value"), .e (.xfld (.newX "BadText" [(.lit (.int 7))] [.arg 0]) "value"), .e (.xfld (.newX "UnknownSum" [(.lit (.int 8))] [.arg 0]) "value")])),
  .asg (.var 0) (.bin .Add (.var 0) (.lstE [.e (.xfld (.newX "UnknownName" [(.lit (.int 9))] [.arg 0]) "name"), .e (.xfld (.newX "BadCommand" [(.lit (.int 10))] [.arg 0]) "command")])),
  .asg (.var 1) (.lstE [.e (.xfld (.newX "TakenName" [(.lit (.str "a"))] [.arg 0]) "name"), .e (.xfld (.newX "InUse" [(.lit (.str "b"))] [.arg 0]) "name"), .e (.xfld (.newX "NothingToDo" [(.lit (.str "undo"))] [.arg 0]) "action")]),
  .asg (.var 1) (.bin .Add (.var 1) (.lstE [.e (.xfld (.newX "Contrary" [(.tupE [.e (.lit (.str "a")), .e (.lit (.str "b"))])] [.arg 0]) "cell"), .e (.xfld (.newX "Paid" [(.tupE [.e (.lit (.str "c")), .e (.lit (.str "d"))])] [.arg 0]) "cell"), .e (.xfld (.newX "NotPaid" [(.tupE [.e (.lit (.str "e")), .e (.lit (.str "f"))])] [.arg 0]) "cell")])),
  .asg (.var 2) (.newX "Clash" [(.lstE [.e (.tupE [.e (.lit (.str "a")), .e (.lit (.str "all"))])]), (.lstE [.e (.tupE [.e (.lit (.str "b")), .e (.lit (.str "all"))])])] [.arg 1, .arg 0]),
  .ifS (.cmp .NotEq (.var 1) (.lstE [.e (.lit (.str "a")), .e (.lit (.str "b")), .e (.lit (.str "undo")), .e (.tupE [.e (.lit (.str "a")), .e (.lit (.str "b"))]), .e (.tupE [.e (.lit (.str "c")), .e (.lit (.str "d"))]), .e (.tupE [.e (.lit (.str "e")), .e (.lit (.str "f"))])])) [.ret (.lit (.bl false))] [],
  .ret (.andE (.cmp .Eq (.var 0) (.lrng (.lit (.int 1)) (.lit (.int 11)))) (.andE (.cmp .Eq (.xfld (.var 2) "plus") (.lstE [.e (.tupE [.e (.lit (.str "b")), .e (.lit (.str "all"))])])) (.cmp .Eq (.xfld (.var 2) "minus") (.lstE [.e (.tupE [.e (.lit (.str "a")), .e (.lit (.str "all"))])]))))]
def f_law_names_right : FDef := { nm := "_law_names_right", ps := [], N := ["_law_told", "_law_more", "_law_both"], body := b_law_names_right, region := .frz }
def b_law_draw : List MS := [.ifS (.cmp .GtE (.idx (.var 0) (.lit (.int 0))) (.var 1)) [.asg (.var 2) (.bin .Mod (.idx (.var 0) (.lit (.int 0))) (.var 1)),
  .asg (.idx (.var 0) (.lit (.int 0))) (.bin .FloorDiv (.idx (.var 0) (.lit (.int 0))) (.var 1)),
  .ret (.var 2)] [],
  .asg (.idx (.var 0) (.lit (.int 1))) (.bin .Mod (.bin .Add (.bin .Mult (.idx (.var 0) (.lit (.int 1))) (.lit (.int 48271))) (.lit (.int 12345))) (.lit (.int 2147483647))),
  .ret (.bin .Mod (.bin .FloorDiv (.bin .Mod (.bin .Pow (.bin .Mod (.bin .Pow (.idx (.var 0) (.lit (.int 1))) (.lit (.int 3))) (.lit (.int 2147483629))) (.lit (.int 5))) (.lit (.int 1000000007))) (.lit (.int 7))) (.var 1))]
def f_law_draw : FDef := { nm := "_law_draw", ps := ["_law_stream_here", "_law_size"], N := ["_law_stream_here", "_law_size", "_law_found"], body := b_law_draw, region := .frz }
def prog : MProg := { fns := [f_law, f_law_stream, f_law_choose, f_law_caught, f_law_named, f_law_kind, f_law_kept, f_law_names_right, f_law_draw], cls := [], excs := [{ nm := "Clash", ns := ["plus", "minus"] }, { nm := "BadName", ns := ["value"] }, { nm := "BadTree", ns := ["value"] }, { nm := "BadSheet", ns := ["value"] }, { nm := "BadNumber", ns := ["value"] }, { nm := "BadBill", ns := ["value"] }, { nm := "BadCents", ns := ["value"] }, { nm := "BadText", ns := ["value"] }, { nm := "UnknownSum", ns := ["value"] }, { nm := "UnknownName", ns := ["name"] }, { nm := "TakenName", ns := ["name"] }, { nm := "InUse", ns := ["name"] }, { nm := "Contrary", ns := ["cell"] }, { nm := "Paid", ns := ["cell"] }, { nm := "NotPaid", ns := ["cell"] }, { nm := "BadCommand", ns := ["command"] }, { nm := "NothingToDo", ns := ["action"] }], base := "BillError" }
end P_k03
set_option Elab.async false
set_option linter.all false
set_option maxRecDepth 100000
set_option maxHeartbeats 0
namespace P_k03
open PySem PySem.W L2 Mi
def top (i : Nat) : Stmt := PySem.Challenge.pw_billtrees_k03_errors_made.main.body.getD i (.Pass ⟨0, 0, 0, 0⟩)
def T : Tb := { plain := ["_law_caught", "_law_choose", "_law_draw", "_law_kept", "_law_kind", "_law_named", "_law_names_right", "_law_stream", "law"], frees := ["ValueError", "isinstance", "len", "list", "range", "repr", "super"], globs := [], kws := [⟨"_law_names_right", 0, [], []⟩], kwm := [], hnd := ["BillError", "BadName", "BadTree", "BadSheet", "BadNumber", "BadBill", "BadCents", "BadText", "UnknownSum", "UnknownName", "TakenName", "InUse", "Contrary", "Paid", "NotPaid", "BadCommand", "Clash", "NothingToDo"], kwx := [⟨"BadName", 0, ["value"], [.arg 0]⟩, ⟨"BadTree", 0, ["value"], [.arg 0]⟩, ⟨"BadSheet", 0, ["value"], [.arg 0]⟩, ⟨"BadNumber", 0, ["value"], [.arg 0]⟩, ⟨"BadBill", 0, ["value"], [.arg 0]⟩, ⟨"BadCents", 0, ["value"], [.arg 0]⟩, ⟨"BadText", 0, ["value"], [.arg 0]⟩, ⟨"UnknownSum", 0, ["value"], [.arg 0]⟩, ⟨"UnknownName", 0, ["name"], [.arg 0]⟩, ⟨"BadCommand", 0, ["command"], [.arg 0]⟩, ⟨"TakenName", 0, ["name"], [.arg 0]⟩, ⟨"InUse", 0, ["name"], [.arg 0]⟩, ⟨"NothingToDo", 0, ["action"], [.arg 0]⟩, ⟨"Contrary", 0, ["cell"], [.arg 0]⟩, ⟨"Paid", 0, ["cell"], [.arg 0]⟩, ⟨"NotPaid", 0, ["cell"], [.arg 0]⟩, ⟨"Clash", 0, ["minus", "plus"], [.arg 1, .arg 0]⟩] }
def defs : List DefM := [
  DefM.of "law" (.glo "law") "law" "law" (top 28),
  DefM.of "_law_stream" (.glo "_law_stream") "_law_stream" "_law_stream" (top 20),
  DefM.of "_law_choose" (.glo "_law_choose") "_law_choose" "_law_choose" (top 22),
  DefM.of "_law_caught" (.glo "_law_caught") "_law_caught" "_law_caught" (top 23),
  DefM.of "_law_named" (.glo "_law_named") "_law_named" "_law_named" (top 24),
  DefM.of "_law_kind" (.glo "_law_kind") "_law_kind" "_law_kind" (top 25),
  DefM.of "_law_kept" (.glo "_law_kept") "_law_kept" "_law_kept" (top 26),
  DefM.of "_law_names_right" (.glo "_law_names_right") "_law_names_right" "_law_names_right" (top 27),
  DefM.of "_law_draw" (.glo "_law_draw") "_law_draw" "_law_draw" (top 21)]
def xdefs : List XDefM := [{ cls := "Clash", stm := inClass (top 2) 0 }, { cls := "BadName", stm := inClass (top 3) 0 }, { cls := "BadTree", stm := inClass (top 4) 0 }, { cls := "BadSheet", stm := inClass (top 5) 0 }, { cls := "BadNumber", stm := inClass (top 6) 0 }, { cls := "BadBill", stm := inClass (top 7) 0 }, { cls := "BadCents", stm := inClass (top 8) 0 }, { cls := "BadText", stm := inClass (top 9) 0 }, { cls := "UnknownSum", stm := inClass (top 13) 0 }, { cls := "UnknownName", stm := inClass (top 11) 0 }, { cls := "TakenName", stm := inClass (top 12) 0 }, { cls := "InUse", stm := inClass (top 15) 0 }, { cls := "Contrary", stm := inClass (top 14) 0 }, { cls := "Paid", stm := inClass (top 16) 0 }, { cls := "NotPaid", stm := inClass (top 17) 0 }, { cls := "BadCommand", stm := inClass (top 10) 0 }, { cls := "NothingToDo", stm := inClass (top 18) 0 }]
def L : LawD := { P := prog, T := T, defs := defs, fuel := 200, xdefs := xdefs, file := "/claim/cut.py" }
theorem chk : chkL L = true := by decide +kernel
def names0 : List PySem.Str := ["BillError", "Clash", "BadName", "BadTree", "BadSheet", "BadNumber", "BadBill", "BadCents", "BadText", "BadCommand", "UnknownName", "TakenName", "UnknownSum", "Contrary", "InUse", "Paid", "NotPaid", "NothingToDo", "_law_stream", "_law_draw"]
def names1 : List PySem.Str := ["_law_choose", "_law_caught", "_law_named", "_law_kind", "_law_kept", "_law_names_right"]
def names : List PySem.Str := names0 ++ names1
abbrev R : PySem.W.OpenRow := PySem.W.OpenLaw.row PySem.Challenge.rw_billtrees_k03_errors_made
abbrev hk : PySem.W.Hook := hookM 8 L
def ob (s : PySem.W.SharedT) : AlM := obsMG 8 L (HandSHeadRun.getT s)
theorem ob_eq (s : PySem.W.SharedT) : ob s = hk.obs s.abs := obsMG_eq (HandSHeadRun.getT_eq s)
theorem run (w : World) : HandSHeadRun.RunEq R (PySem.W.view R.prog [28]) hk ob 6000 names w := by
  intro os
  kernel_rfl
end P_k03
open PySem PySem.W PySem.Calls PyProof.Rows
theorem P_k03.holds_of {W n : Nat} (hr : L2.Room (Mi.lev n) callerA) (mini : Mi.MiniHolds P_k03.prog W n) : PySem.Challenge.rw_billtrees_k03_errors_made.Holds := by
  w_on; o_law
  refine HandSHeadRun.head_any (r := OpenLaw.row PySem.Challenge.rw_billtrees_k03_errors_made) (q := view (OpenLaw.row PySem.Challenge.rw_billtrees_k03_errors_made).prog [28]) (H := P_k03.hk) (ob := P_k03.ob) (M := 6000) (loose := P_k03.names) (d := HandSHeadRun.topDef (OpenLaw.row PySem.Challenge.rw_billtrees_k03_errors_made).prog 28) (kwd := []) P_k03.ob_eq
    (by kernel_rfl) (fun s => by kernel_rfl) P_k03.run (by kernel_rfl) (by kernel_rfl) (by kernel_rfl) (by rfl) (by first | assumption | decide +kernel) (by decide +kernel) ⟨rfl, rfl, rfl, rfl, rfl, by decide +kernel⟩ ?hw ?hc
  case hw => w_witness2
  case hc => exact Mi.walk_M (L := P_k03.L) (n := n) (W := W) (x := "_law_script") rfl (by kernel_rfl) (by kernel_rfl) hr P_k03.chk (by decide +kernel) (by decide +kernel) (by decide +kernel) (by decide +kernel) mini
/-! The law k03 over Mini. -/
set_option autoImplicit false
set_option linter.all false
set_option maxRecDepth 100000
namespace P_k03
open PySem Mi
theorem bxf {M : Mem} {xs : List MV} : boxM (.fls xs) M = .ok (.ref M.length) (M ++ [.lst xs]) := by rw [boxM]
theorem is_ (f : Str) (d : FDef) (h : fnOf? prog f = some d) : FnIs prog f d.body d.ps.length d.N.length d.region := ⟨d, h, rfl, rfl, rfl, rfl⟩
theorem draws : Draws prog := ⟨is_ "_law_draw" f_law_draw (by kernel_rfl), is_ "_law_choose" f_law_choose (by kernel_rfl)⟩
def M4 (d s : Int) : Mem := [St2 d s, .lst [.int 1, .str "a"], .lst [.fls [.str "b"]], .lst [.non, .int 7]]
def things : List ME := [(.box (.lstE [.e (.lit (.int 1)), .e (.lit (.str "a"))])), (.box (.lstE [.e (.lstE [.e (.lit (.str "b"))])])), (.box (.lstE [.e (.lit .non), .e (.lit (.int 7))]))]
theorem strm4 {d s : Int} (h : SOk d s) : Strm (M4 d s) 0 := ⟨d, s, rfl, h⟩
theorem drew4 {d s : Int} {M' : Mem} (h : Drew (M4 d s) 0 M') : ∃ d' s', M' = M4 d' s' ∧ SOk d' s' := by
  obtain ⟨d', s', e, h⟩ := h
  exact ⟨d', s', e, h⟩
set_option maxHeartbeats 0
theorem fin1 (d s d' s' : Int) : finR 4 (M4 d s) (outR (.rt (.ref 1) (M4 d' s'))) = .ok (.ref 1) (M4 d' s') := by kernel_rfl
theorem fin2 (d s d' s' : Int) : finR 4 (M4 d s) (outR (.rt (.ref 2) (M4 d' s'))) = .ok (.ref 2) (M4 d' s') := by kernel_rfl
theorem fin3 (d s d' s' : Int) : finR 4 (M4 d s) (outR (.rt (.ref 3) (M4 d' s'))) = .ok (.ref 3) (M4 d' s') := by kernel_rfl
theorem choose1 {W n : Nat} {d s : Int} (h : SOk d s) : ∃ (i : Nat) (d' s' : Int), (i = 1 ∨ i = 2 ∨ i = 3) ∧ SOk d' s' ∧ callF prog W (n + 2) "_law_choose" [.ref 0, .fls [.ref 1, .ref 2, .ref 3]] (M4 d s) = .ok (.ref i) (M4 d' s') := by
  obtain ⟨r, M', e, hr, dr⟩ := draw_ok (W := W) (n := n) (k := 3) draws.draw (strm4 h) (by omega) (by omega)
  obtain ⟨d', s', rfl, h'⟩ := drew4 dr
  have env : ([MV.ref 0, .fls [.ref 1, .ref 2, .ref 3]].map some ++ List.replicate (2 - [MV.ref 0, .fls [.ref 1, .ref 2, .ref 3]].length) none) = [some (.ref 0), some (.fls [.ref 1, .ref 2, .ref 3])] := rfl
  have hl : biM (M4 d s) "len" [.fls [.ref 1, .ref 2, .ref 3]] = some (.int 3) := len_fls
  have hr' : r = 0 ∨ r = 1 ∨ r = 2 := by omega
  have go : ∀ x, idxM (M4 d' s') (.fls [.ref 1, .ref 2, .ref 3]) (.int r) = some x → callF prog W (n + 2) "_law_choose" [.ref 0, .fls [.ref 1, .ref 2, .ref 3]] (M4 d s) = finR 4 (M4 d s) (outR (.rt x (M4 d' s'))) := fun x hx => by
    rw [draws.choose.reg rfl, env]
    have : execSs prog (callF prog W (n + 1)) W chooseB [some (.ref 0), some (.fls [.ref 1, .ref 2, .ref 3])] (M4 d s) = .rt x (M4 d' s') := by
      unfold chooseB
      simp only [exs_cons, ex_ret, ev_idx, ev_call, evs_cons, evs_nil, ev_bi, rb_ok, ro_ok, rof_some, ev_var lg0, ev_var (lgS.trans lg0), hl, e, hx]
    rw [this]
    rfl
  rcases hr' with rfl | rfl | rfl
  · exact ⟨1, d', s', .inl rfl, h', by rw [go _ (by rw [idx_fls, ix_nn (by decide)]; rfl)]; exact fin1 ..⟩
  · exact ⟨2, d', s', .inr (.inl rfl), h', by rw [go _ (by rw [idx_fls, ix_nn (by decide)]; rfl)]; exact fin2 ..⟩
  · exact ⟨3, d', s', .inr (.inr rfl), h', by rw [go _ (by rw [idx_fls, ix_nn (by decide)]; rfl)]; exact fin3 ..⟩
theorem choose4 {W n : Nat} {d s : Int} {xs : List MV} (h : SOk d s) (h1 : xs ≠ []) (h2 : xs.length < 1073741824) (hn : norefs xs = true) : ∃ (x : MV) (d' s' : Int), x ∈ xs ∧ SOk d' s' ∧ callF prog W (n + 2) "_law_choose" [.ref 0, .fls xs] (M4 d s) = .ok x (M4 d' s') := by
  obtain ⟨x, M', e, hx, dr⟩ := choose_fls (W := W) (n := n) draws (strm4 h) h1 h2 hn
  obtain ⟨d', s', rfl, h'⟩ := drew4 dr
  exact ⟨x, d', s', hx, h', e⟩
def preB : List MS := [.asg (.var 1) (.call "_law_stream" [(.var 0), (.lit (.int 0))]),
  .asg (.tup [(.var 7), (.var 8)]) (.tupE [.e (.call "_law_choose" [(.var 1), (.lstE [.e (.box (.lstE [.e (.lit (.int 1)), .e (.lit (.str "a"))])), .e (.box (.lstE [.e (.lstE [.e (.lit (.str "b"))])])), .e (.box (.lstE [.e (.lit .non), .e (.lit (.int 7))]))])]), .e (.call "_law_choose" [(.var 1), (.lstE [.e (.lit (.str "food")), .e (.lit (.str "ann")), .e (.lit (.str "all"))])])]),
  .asg (.var 2) (.lstE [.e (.lit (.str "BadName")), .e (.lit (.str "BadTree")), .e (.lit (.str "BadSheet")), .e (.lit (.str "BadNumber")), .e (.lit (.str "BadBill")), .e (.lit (.str "BadCents")), .e (.lit (.str "BadText")), .e (.lit (.str "UnknownSum"))]),
  .asg (.var 3) (.lstE [.e (.lit (.str "UnknownName")), .e (.lit (.str "TakenName")), .e (.lit (.str "InUse")), .e (.lit (.str "Contrary")), .e (.lit (.str "Paid")), .e (.lit (.str "NotPaid")), .e (.lit (.str "BadCommand")), .e (.lit (.str "NothingToDo"))]),
  .asg (.tup [(.var 9), (.var 10)]) (.tupE [.e (.tupE [.e (.var 8), .e (.call "_law_choose" [(.var 1), (.lstE [.e (.lit (.str "ann")), .e (.lit (.str "ben"))])])]), .e (.call "_law_choose" [(.var 1), (.lstE [.e (.lit (.str "undo")), .e (.lit (.str "redo"))])])]),
  .asg (.var 4) (.lstE [.e (.var 7), .e (.var 8), .e (.var 8), .e (.var 9), .e (.var 9), .e (.var 9), .e (.var 7), .e (.var 10)])]
def tlB : List MS := [.forS (.var 5) (.range [(.lit (.int 8))]) [.asg (.var 11) (.box (.lstE [.e (.tupE [.e (.call "_law_caught" [(.var 5), (.var 7)]), .e (.var 7), .e (.idx (.var 2) (.var 5))])])),
  .expr (.bm (.var 11) .append [(.tupE [.e (.call "_law_named" [(.var 5), (.idx (.var 4) (.var 5))]), .e (.idx (.var 4) (.var 5)), .e (.idx (.var 3) (.var 5))])]),
  .forS (.tup [(.var 14), (.var 15), (.var 16)]) (.val (.var 11)) [.ifS (.cmp .NotEq (.call "_law_kind" [(.var 14)]) (.lstE [.e (.var 16)])) [.ret (.lit (.bl false))] [],
  .expr (.bm (.var 7) .append [(.var 5)]),
  .ifS (.cmp .NotEq (.bi "repr" [(.call "_law_kept" [(.var 14), (.var 16)])]) (.bi "repr" [(.var 15)])) [.ret (.lit (.bl false))] []]],
  .asg (.tup [(.var 12), (.var 13), (.var 14)]) (.tupE [.e (.box (.lstE [.e (.tupE [.e (.lit (.str "a")), .e (.lit (.str "all"))])])), .e (.box (.lstE [])), .e (.lit .non)]),
  .tryS [.raise "Clash" [(.var 12), (.var 13)]] [.mk ["BillError"] (some 6) [.asg (.var 14) (.var 6)]],
  .expr (.bm (.var 12) .append [(.tupE [.e (.lit (.str "b")), .e (.lit (.str "all"))])]),
  .expr (.bm (.var 13) .append [(.tupE [.e (.lit (.str "c")), .e (.lit (.str "all"))])]),
  .ifS (.orE (.cmp .NotEq (.call "_law_kind" [(.var 14)]) (.lstE [.e (.lit (.str "Clash"))])) (.orE (.cmp .NotEq (.xfld (.var 14) "plus") (.var 12)) (.cmp .NotEq (.xfld (.var 14) "minus") (.var 13)))) [.ret (.lit (.bl false))] [],
  .ret (.callK "_law_names_right" [] [])]
theorem law_eq : b_law = preB ++ tlB := by kernel_rfl
def wordsL : List MV := [.str "food", .str "ann", .str "all"]
def secL : List MV := [.str "ann", .str "ben"]
def deedL : List MV := [.str "undo", .str "redo"]
def ρ5 (sc : MV) (i : Nat) (w x y : MV) : Mi.Env := [some sc, some (.ref 0), some (.fls [.str "BadName", .str "BadTree", .str "BadSheet", .str "BadNumber", .str "BadBill", .str "BadCents", .str "BadText", .str "UnknownSum"]), some (.fls [.str "UnknownName", .str "TakenName", .str "InUse", .str "Contrary", .str "Paid", .str "NotPaid", .str "BadCommand", .str "NothingToDo"]), some (.fls [.ref i, w, w, .tup [w, x], .tup [w, x], .tup [w, x], .ref i, y]), none, none, some (.ref i), some w, some (.tup [w, x]), some y, none, none, none, none, none, none]
theorem pre {ns : List Int} (hbits : ∀ z ∈ ns, Builtin.Int.intBits z ≤ 1048576) : ∃ (i : Nat) (w x y : MV) (d s : Int), (i = 1 ∨ i = 2 ∨ i = 3) ∧ w ∈ wordsL ∧ x ∈ secL ∧ y ∈ deedL ∧
    execSs prog (callF prog 30 4) 30 preB [some (.scr (ns.map .int)), none, none, none, none, none, none, none, none, none, none, none, none, none, none, none, none] [] = .nx (ρ5 (.scr (ns.map .int)) i w x y) (M4 d s) := by
  obtain ⟨d0, s0, k0, e0⟩ := stream_ok (P := prog) (W := 30) (n := 3) (M := []) (ns := ns) (st := 0) (is_ "_law_stream" f_law_stream (by kernel_rfl)) (by decide) hbits
  have e0' : callF prog 30 4 "_law_stream" [.scr (ns.map .int), .int 0] [] = .ok (.ref 0) [St2 d0 s0] := e0
  obtain ⟨i, d1, s1, hi, k1, e1⟩ := choose1 (W := 30) (n := 2) k0
  obtain ⟨w, d2, s2, hw, k2, e2⟩ := choose4 (W := 30) (n := 2) (xs := wordsL) k1 (by decide) (by decide) (by decide +kernel)
  obtain ⟨x, d3, s3, hx, k3, e3⟩ := choose4 (W := 30) (n := 2) (xs := secL) k2 (by decide) (by decide) (by decide +kernel)
  obtain ⟨y, d4, s4, hy, k4, e4⟩ := choose4 (W := 30) (n := 2) (xs := deedL) k3 (by decide) (by decide) (by decide +kernel)
  refine ⟨i, w, x, y, d4, s4, hi, hw, hx, hy, ?_⟩
  have m0 : [St2 d0 s0] ++ [.lst [.int 1, .str "a"]] ++ [.lst [.fls [.str "b"]]] ++ [.lst [.non, .int 7]] = M4 d0 s0 := rfl
  have l1 : 1 ≤ LINE := by unfold LINE; omega
  have l2 : 2 ≤ LINE := by unfold LINE; omega
  have l3 : 3 ≤ LINE := by unfold LINE; omega
  have l8 : 8 ≤ LINE := by unfold LINE; omega
  have tl : ∀ a b : MV, ([a, b] : List MV).length = ([MT.var 7, MT.var 8] : List MT).length := fun _ _ => rfl
  have tl2 : ∀ a b : MV, ([a, b] : List MV).length = ([MT.var 9, MT.var 10] : List MT).length := fun _ _ => rfl
  have u1 : wordsL = [.str "food", .str "ann", .str "all"] := rfl
  have u2 : secL = [.str "ann", .str "ben"] := rfl
  have u3 : deedL = [.str "undo", .str "redo"] := rfl
  rw [u1] at e2
  rw [u2] at e3
  rw [u3] at e4
  have m0 : [St2 d0 s0] ++ [MO.lst [.int 1, .str "a"]] ++ [MO.lst [.fls [.str "b"]]] ++ [MO.lst [.non, .int 7]] = M4 d0 s0 := rfl
  unfold preB
  rw [exs_cons]
  simp only [ex_asg, ev_call, ev_lit, evs_cons, evs_nil, rb_ok, ro_ok, ev_var lg0, e0', as_var, List.length_cons, List.length_nil, Nat.reduceLT, Nat.reduceAdd, List.set_cons_succ, List.set_cons_zero]
  rw [exs_cons]
  simp only [ex_asg, ev_tup, ev_call, ev_lst, ev_box, evas_e, evas_nil, ev_lit, evs_cons, evs_nil, bxf, rb_ok, ro_ok, ev_var lg0, ev_var (lgS.trans lg0), List.length_cons, List.length_nil, Nat.reduceLT, Nat.reduceAdd, l1, l2, l3, if_true, List.nil_append, List.length_append, m0, e1, e2, as_tup (tl _ _), ass_cons, ass_nil, as_var, List.set_cons_succ, List.set_cons_zero]
  rw [exs_cons]
  simp only [ex_asg, ev_lst, evas_e, evas_nil, ev_lit, rb_ok, ro_ok, List.length_cons, List.length_nil, Nat.reduceLT, Nat.reduceAdd, l8, if_true, as_var, List.set_cons_succ, List.set_cons_zero]
  rw [exs_cons]
  simp only [ex_asg, ev_lst, evas_e, evas_nil, ev_lit, rb_ok, ro_ok, List.length_cons, List.length_nil, Nat.reduceLT, Nat.reduceAdd, l8, if_true, as_var, List.set_cons_succ, List.set_cons_zero]
  rw [exs_cons]
  simp only [ex_asg, ev_tup, ev_call, ev_lst, evas_e, evas_nil, ev_lit, evs_cons, evs_nil, rb_ok, ro_ok, ev_var lg0, ev_var (lgS.trans lg0), ev_var (lgSS.trans (lgSS.trans (lgSS.trans (lgSS.trans lg0)))), List.length_cons, List.length_nil, Nat.reduceLT, Nat.reduceAdd, l1, l2, l3, if_true, e3, e4, as_tup (tl2 _ _), ass_cons, ass_nil, as_var, List.set_cons_succ, List.set_cons_zero]
  rw [exs_cons]
  simp only [exs_nil, ex_asg, ev_lst, evas_e, evas_nil, rb_ok, ro_ok, ev_var (lgSS.trans (lgSS.trans (lgSS.trans (lgSS.trans lg0)))), ev_var (lgSS.trans (lgSS.trans (lgSS.trans (lgS.trans lg0)))), ev_var (lgSS.trans (lgSS.trans (lgSS.trans (lgSS.trans (lgS.trans lg0))))), ev_var (lgSS.trans (lgSS.trans (lgSS.trans (lgSS.trans (lgSS.trans lg0))))), List.length_cons, List.length_nil, Nat.reduceLT, Nat.reduceAdd, l8, if_true, as_var, List.set_cons_succ, List.set_cons_zero]
  rfl
def okO : Out → Bool
  | .rt (.bl true) _ => true
  | _ => false
theorem okO_of : ∀ {o : Out}, okO o = true → ∃ M', o = .rt (.bl true) M'
  | .rt (.bl true) M, _ => ⟨M, rfl⟩
theorem t1 (d s : Int) (sc : MV) {w x y : MV} (hw : w ∈ wordsL) (hx : x ∈ secL) (hy : y ∈ deedL) : okO (execSs prog (callF prog 30 4) 30 tlB (ρ5 sc 1 w x y) (M4 d s)) = true := by
  simp only [wordsL, secL, deedL, List.mem_cons, List.mem_nil_iff, or_false] at hw hx hy
  rcases hw with rfl | rfl | rfl <;> rcases hx with rfl | rfl <;> rcases hy with rfl | rfl <;> kernel_rfl
theorem t2 (d s : Int) (sc : MV) {w x y : MV} (hw : w ∈ wordsL) (hx : x ∈ secL) (hy : y ∈ deedL) : okO (execSs prog (callF prog 30 4) 30 tlB (ρ5 sc 2 w x y) (M4 d s)) = true := by
  simp only [wordsL, secL, deedL, List.mem_cons, List.mem_nil_iff, or_false] at hw hx hy
  rcases hw with rfl | rfl | rfl <;> rcases hx with rfl | rfl <;> rcases hy with rfl | rfl <;> kernel_rfl
theorem t3 (d s : Int) (sc : MV) {w x y : MV} (hw : w ∈ wordsL) (hx : x ∈ secL) (hy : y ∈ deedL) : okO (execSs prog (callF prog 30 4) 30 tlB (ρ5 sc 3 w x y) (M4 d s)) = true := by
  simp only [wordsL, secL, deedL, List.mem_cons, List.mem_nil_iff, or_false] at hw hx hy
  rcases hw with rfl | rfl | rfl <;> rcases hx with rfl | rfl <;> rcases hy with rfl | rfl <;> kernel_rfl
theorem exs_app {P : MProg} {cal : Cal} {W : Nat} {ρ1 : Mi.Env} {M1 : Mem} : ∀ {a b : List MS} {ρ : Mi.Env} {M : Mem}, execSs P cal W a ρ M = .nx ρ1 M1 → execSs P cal W (a ++ b) ρ M = execSs P cal W b ρ1 M1
  | [], b, ρ, M, h => by rw [exs_nil] at h; cases h; rfl
  | s :: a, b, ρ, M, h => by
    rw [List.cons_append, exs_cons]
    rw [exs_cons] at h
    cases e : execS P cal W s ρ M with
    | nx ρ2 M2 => rw [e] at h; exact exs_app h
    | _ => rw [e] at h; cases h
theorem mini : MiniHolds prog 30 5 := by
  intro ns hlen hbits
  have env : ([MV.scr (ns.map .int)].map some ++ List.replicate (17 - [MV.scr (ns.map .int)].length) none) = [some (.scr (ns.map .int)), none, none, none, none, none, none, none, none, none, none, none, none, none, none, none, none] := rfl
  have hlaw : FnIs prog "law" b_law 1 17 .no := is_ "law" f_law (by kernel_rfl)
  obtain ⟨i, w, x, y, d, s, hi, hw, hx, hy, e⟩ := pre hbits
  have h : okO (execSs prog (callF prog 30 4) 30 tlB (ρ5 (.scr (ns.map .int)) i w x y) (M4 d s)) = true := by
    rcases hi with rfl | rfl | rfl
    · exact t1 d s _ hw hx hy
    · exact t2 d s _ hw hx hy
    · exact t3 d s _ hw hx hy
  obtain ⟨M', h⟩ := okO_of h
  refine ⟨M', ?_⟩
  rw [hlaw.pl rfl, env, law_eq, exs_app e, h]
  rfl
end P_k03
theorem PySem.Challenge.cw_billtrees_k03_errors_made_holds : PySem.Challenge.rw_billtrees_k03_errors_made.Holds := by
  exact P_k03.holds_of (W := 30) (n := 5) ⟨rfl, by decide, by decide⟩ P_k03.mini
