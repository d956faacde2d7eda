import PyProof.Rows.All
import Wide.All
import Open.Line
import Wide.FinOn
import PyProof.P3Statements
import PyProof.SliceMore
import PyProof.RangeIter
import PyProof.Cells
import PyProof.StationsW
import PyProof.PureInt
import PyProof.Rows.RuleB_mul
import PyProof.Rows.RuleB_mod
import PyProof.Rows.RuleB_floordiv
import PyProof.Rows.RuleB_pow
import PyProof.Rows.RuleC_int
import PyProof.Rows.IntRules
import PyProof.Rows.StrRules
import PyProof.Rows.RuleU_int
import PyProof.Rows.SeqMore
import PyProof.Rows.ListMul
import PyProof.EqLayable
import PyProof.IsRules
import PyProof.Rows.StrTemp
import PyProof.Rows.TupSub
import PyProof.Rows.SeqSlice
import PyProof.ListIndexNeg
import PyProof.StrOps
import PyProof.IsiHeapPairs
import PyProof.IsiPairs
import PyProof.IsiNone
import PyProof.WalkInts
import PyProof.Rows.StrJoin2
import PyProof.Rows.StrClose
import PyProof.Rows.Range3
import PyProof.Conv_int_bool
import PyProof.Rows.RuleN_abs
import PyProof.ListRange
import PyProof.ListCopy
import PyProof.Rows.Lst
import PyProof.DefCall
import OpenK.KMake
import OpenK.KWalk
import OpenK.KMore
import PyProof.ExcArgs
import PyProof.CompMap
import PyProof.CompFree
import PyProof.WalksMore
import PyProof.LetGo
import PyProof.StrBlock
import PyProof.Rows.Chain
import PyProof.TupleIter
import PyProof.Rules3
import PyProof.ExcClass2
import PyProof.ExcBaseAll.ValueError
import PyProof.RulesTry
import PyProof.RulesAs
import PySem.Challenge.RW_uf060021_03
set_option Elab.async false
set_option autoImplicit false
set_option linter.unusedVariables false
set_option linter.unusedSimpArgs false

namespace Mine.Internal
open PySem PySem.W PyProof.Rows
noncomputable def view : Program := { PySem.Challenge.pw_uf060021_03 with main := { PySem.Challenge.pw_uf060021_03.main with body := [1, 2, 3, 4, 5, 7, 9, 10, 11, 12, 13, 14, 15, 16, 17, 18, 19, 20, 21].filterMap fun i => PySem.Challenge.pw_uf060021_03.main.body[i]? } }
set_option maxRecDepth 100000 in
set_option maxHeartbeats 8000000 in
theorem left03 : LeftO PySem.Challenge.rw_uf060021_03.row.prog view [] (fun s => xlAt view [] s && recOk (RowW.records PySem.Challenge.rw_uf060021_03.row.toRowW) s) (fun _ => ()) (fun _ => ()) 3124 := fun w => by kernel_rfl
end Mine.Internal
namespace Mine.Internal
open PySem

inductive V where
  | none
  | bool (b : Bool)
  | int (i : Int)
  | str (s : Str)
  | tup (vs : List V)
  | lst (vs : List V)
  | rng (lo : Int) (n : Nat) (st : Int)
  | ref (i : Nat)
  | exc (c : Nat)
  deriving Inhabited

inductive O where
  | list (vs : List V)
  | inst (c : Nat) (fs : List (Nat × V))
  | dict (es : List (Int × V))
  | dead
  deriving Inhabited

abbrev H := List O
abbrev L := List (Option V)

inductive Res (α : Type) where
  | ok (a : α) (h : H)
  | exc (c : Nat) (h : H)
  | stuck

noncomputable def Res.bind {α β : Type} : Res α → (α → H → Res β) → Res β
  | .ok a h, f => f a h
  | .exc c h, _ => .exc c h
  | .stuck, _ => .stuck

inductive Bop where
  | add | sub | mul | fdiv | mod | pow
  deriving DecidableEq
inductive Cop where
  | eq | ne | lt | le | gt | ge | is | isNot
  deriving DecidableEq
inductive Prim where
  | len | range | list (m : Bool) | max | min | abs | int
  deriving DecidableEq
noncomputable def notList : Prim → Bool
  | .list _ => false
  | .max => false
  | .min => false
  | _ => true
inductive Ty where
  | int | bool | str | list | tuple | cls (c : Nat) | verr
  deriving DecidableEq

set_option genSizeOfSpec false in
set_option genInjectivity false in
inductive CE where
  | var (j : Nat)
  | none
  | bool (b : Bool)
  | int (i : Int)
  | str (s : Str)
  | bin (m : Bool) (op : Bop) (a b : CE)
  | neg (a : CE)
  | not (a : CE)
  | and (a b : CE)
  | or (a b : CE)
  | cmp (op : Cop) (a b : CE)
  | cmp2 (o1 o2 : Cop) (a b c : CE)
  | sub (a i : CE)
  | slice (m : Bool) (a lo hi : CE)
  | attr (a : CE) (n : Nat)
  | call (f : Nat) (args : List CE)
  | new (c : Nat) (args : List CE)
  | meth (n : Nat) (o : CE) (args : List CE)
  | prim (p : Prim) (args : List CE)
  | join (sep : Str) (a : CE)
  | isi (a : CE) (t : Ty)
  | append (o x : CE)
  | setdef (o k v : CE)
  | list (m : Bool) (es : List CE)
  | rep (m : Bool) (es : List CE) (n : CE)
  | tup (es : List CE)
  | dict
  | comp (m : Bool) (elt it : CE)
  | compIf (m : Bool) (elt it cond : CE)

set_option genSizeOfSpec false in
set_option genInjectivity false in
mutual
inductive CS where
  | assign (j : Nat) (e : CE)
  | setattr (o : CE) (n : Nat) (e : CE)
  | setitem (o i e : CE)
  | expr (e : CE)
  | ite (c : CE) (t e : List CS)
  | for (j : Nat) (it : CE) (body : List CS)
  | while (c : CE) (body : List CS)
  | ret (e : CE)
  | raise (c : Nat)
  | try (body : List CS) (hs : List CH)
  | pass
  | cont
  | bad
inductive CH where
  | mk (cs : List Nat) (bind : Option Nat) (body : List CS)
end

inductive Fl where
  | next | cont | ret (v : V) | exc (c : Nat)

structure Tab where
  F : Nat → List V → H → Res V
  init : Nat → Option Nat
  meth : Nat → Nat → Option Nat
  mro : Nat → Option (List Nat)
  flat : Nat → Bool

mutual
noncomputable def V.under (n : Nat) : V → Bool
  | .tup vs => unders n vs
  | .lst vs => unders n vs
  | .ref i => decide (i < n)
  | _ => true
noncomputable def unders (n : Nat) : List V → Bool
  | [] => true
  | v :: vs => v.under n && unders n vs
end

noncomputable def asList (h : H) : V → Option (List V)
  | .lst vs => some vs
  | .ref i => match h[i]? with
    | some (.list vs) => some vs
    | _ => Option.none
  | _ => Option.none

noncomputable def newList (m : Bool) (vs : List V) (h : H) : Res V :=
  if vs.length ≤ 2 ^ 20 then
    if m then .ok (.ref h.length) (h ++ [.list vs]) else .ok (.lst vs) h
  else .stuck

noncomputable def toD (h : H) : Nat → V → Option PyData
  | 0, _ => Option.none
  | d + 1, v => match v with
    | .none => some .none
    | .bool b => some (.bool b)
    | .int i => some (.int i)
    | .str s => some (.str s)
    | .tup vs => (vs.mapM (toD h d)).map .tuple
    | .lst vs => (vs.mapM (toD h d)).map .list
    | .ref i => match h[i]? with
      | some (.list vs) => (vs.mapM (toD h d)).map .list
      | _ => Option.none
    | _ => Option.none

noncomputable def mid (i : Int) : Bool := decide (-(2 ^ 62) < i ∧ i < 2 ^ 62)
noncomputable def small (i : Int) : Bool := decide (-(2 ^ 63) < i ∧ i < 2 ^ 63)

noncomputable def int1 {α : Type} (a : V) (k : Int → Res α) : Res α := match a with
  | .int x => k x
  | _ => .stuck
noncomputable def some1 {α β : Type} (o : Option β) (k : β → Res α) : Res α := match o with
  | some x => k x
  | Option.none => .stuck
noncomputable def when1 {α : Type} (c : Bool) (r : Res α) : Res α := match c with
  | true => r
  | false => .stuck
noncomputable def str1 {α : Type} (a : V) (k : Str → Res α) : Res α := match a with
  | .str x => k x
  | _ => .stuck
noncomputable def int2 {α : Type} (a b : V) (k : Int → Int → Res α) : Res α := int1 a fun x => int1 b fun y => k x y
noncomputable def addop (m : Bool) (a b : V) (h : H) : Res V :=
  match a with
  | .int x => int1 b fun y => .ok (.int (x + y)) h
  | .str x => str1 b fun y => when1 (decide (x.length + y.length ≤ 2 ^ 20)) (.ok (.str (x ++ y)) h)
  | a => some1 (asList h a) fun xs => some1 (asList h b) fun ys => newList m (xs ++ ys) h
noncomputable def binop (m : Bool) (op : Bop) (a b : V) (h : H) : Res V :=
  match op with
  | .add => addop m a b h
  | .sub => int2 a b fun x y => .ok (.int (x - y)) h
  | .mul => int2 a b fun x y => when1 (small x || small y) (.ok (.int (x * y)) h)
  | .fdiv => int2 a b fun x y => when1 (decide (0 < y ∧ y < 2 ^ 30)) (.ok (.int (x.fdiv y)) h)
  | .mod => int2 a b fun x y => when1 (decide (y ≠ 0)) (.ok (.int (x.fmod y)) h)
  | .pow => int2 a b fun x y => when1 (small x && decide (0 ≤ y ∧ y ≤ 1000)) (.ok (.int (x ^ y.toNat)) h)

noncomputable def isN : V → Bool
  | .none => true
  | _ => false
noncomputable def isB (y : Bool) : V → Bool
  | .bool x => x == y
  | _ => false
noncomputable def isv (a b : V) : Option Bool :=
  match b with
  | .none => some (isN a)
  | .bool y => some (isB y a)
  | _ => Option.none

noncomputable def arg2 {α : Type} (as : List V) (k : V → V → Res α) : Res α := match as with
  | [a, b] => k a b
  | _ => .stuck
noncomputable def gtop (a b : V) (h : H) : Res V := int2 a b fun x y => .ok (.bool (decide (y < x))) h

noncomputable def geop (a b : V) (h : H) : Res V := int2 a b fun x y => .ok (.bool (decide (y ≤ x))) h
noncomputable def cmpop (op : Cop) (a b : V) (h : H) : Res V :=
  match op with
  | .eq => some1 (toD h 8 a) fun x => some1 (toD h 8 b) fun y => .ok (.bool (PyData.eqv x y)) h
  | .ne => some1 (toD h 8 a) fun x => some1 (toD h 8 b) fun y => .ok (.bool (!PyData.eqv x y)) h
  | .is => some1 (isv a b) fun r => .ok (.bool r) h
  | .isNot => some1 (isv a b) fun r => .ok (.bool (!r)) h
  | .lt => int2 a b fun x y => .ok (.bool (decide (x < y))) h
  | .le => int2 a b fun x y => .ok (.bool (decide (x ≤ y))) h
  | .gt => gtop a b h
  | .ge => geop a b h

noncomputable def idx (n : Nat) (i : Int) : Option Nat :=
  if -(2 ^ 62) < i ∧ i < 2 ^ 62 then
    if 0 ≤ i then (if i < n then some i.toNat else Option.none)
    else if 0 ≤ i + n then some (i + n).toNat else Option.none
  else Option.none

noncomputable def subop (a i : V) (h : H) : Res V := int1 i fun i =>
  match a with
  | .str s => some1 (idx s.cps.size i) fun k => some1 s.cps[k]? fun c => .ok (.str ⟨#[c]⟩) h
  | .tup vs => some1 (idx vs.length i) fun k => some1 vs[k]? fun v => .ok v h
  | a => some1 (asList h a) fun vs => some1 (idx vs.length i) fun k => some1 vs[k]? fun v => .ok v h

noncomputable def clip (n : Nat) (i : Int) : Nat := clipAt n i

noncomputable def sliceL (vs : List V) (lo hi : Option Int) : List V :=
  let a := lo.elim 0 (clip vs.length)
  let b := hi.elim vs.length (clip vs.length)
  (vs.drop a).take (b - a)

noncomputable def bound : V → Option (Option Int)
  | .none => some Option.none
  | .int i => some (some i)
  | _ => Option.none

noncomputable def sliceop (m : Bool) (a lo hi : V) (h : H) : Res V :=
  some1 (asList h a) fun vs => some1 (bound lo) fun l => some1 (bound hi) fun u => when1 (decide (vs.length ≤ 2 ^ 20)) (newList m (sliceL vs l u) h)

noncomputable def getF (fs : List (Nat × V)) (n : Nat) : Option V := fs.lookup n
noncomputable def setF : List (Nat × V) → Nat → V → List (Nat × V)
  | [], n, v => [(n, v)]
  | (k, w) :: r, n, v => if k = n then (k, v) :: r else (k, w) :: setF r n v

noncomputable def ob1 {α : Type} (a : V) (h : H) (k : Nat → O → Res α) : Res α := match a with
  | .ref i => some1 h[i]? (k i)
  | _ => .stuck
noncomputable def inst1 {α : Type} (a : V) (h : H) (k : Nat → Nat → List (Nat × V) → Res α) : Res α := ob1 a h fun i o => match o with
  | .inst c fs => k i c fs
  | _ => .stuck
noncomputable def list1 {α : Type} (a : V) (h : H) (k : Nat → List V → Res α) : Res α := ob1 a h fun i o => match o with
  | .list vs => k i vs
  | _ => .stuck
noncomputable def attrop (T : Tab) (a : V) (n : Nat) (h : H) : Res V := inst1 a h fun _ c fs => some1 (T.init c) fun _ => some1 (getF fs n) fun v => .ok v h

noncomputable def rngLen (lo hi st : Int) : Nat :=
  if 0 < st then (if lo < hi then (hi - lo).toNat else 0)
  else (if hi < lo then (lo - hi).toNat else 0)

noncomputable def rngItems (lo : Int) (n : Nat) (st : Int) : List V := (List.range n).map fun (k : Nat) => V.int (lo + st * (k : Int))

noncomputable def arg1 {α : Type} (as : List V) (k : V → Res α) : Res α := match as with
  | [a] => k a
  | _ => .stuck
noncomputable def pLen (a : V) (h : H) : Res V :=
  match a with
  | .tup vs => .ok (.int vs.length) h
  | a => some1 (asList h a) fun vs => .ok (.int vs.length) h
noncomputable def pRange (as : List V) (h : H) : Res V :=
  match as with
  | [n] => int1 n fun n => when1 (mid n) (.ok (.rng 0 (rngLen 0 n 1) 1) h)
  | [a, b] => int2 a b fun a b => when1 (mid a && mid b) (.ok (.rng a (rngLen a b 1) 1) h)
  | [a, b, c] => int2 a b fun a b => int1 c fun c => when1 (decide (c = -1) && (mid a && mid b)) (.ok (.rng a (rngLen a b c) c) h)
  | _ => .stuck
noncomputable def pList (m : Bool) (a : V) (h : H) : Res V :=
  match a with
  | .rng lo n st => newList m (rngItems lo n st) h
  | a => some1 (asList h a) fun vs => newList m vs h
noncomputable def bool1 {α : Type} (a : V) (k : Bool → Res α) : Res α := match a with
  | .bool b => k b
  | _ => .stuck
noncomputable def primop (p : Prim) (as : List V) (h : H) : Res V :=
  match p with
  | .len => arg1 as fun a => pLen a h
  | .range => pRange as h
  | .list m => arg1 as fun a => pList m a h
  | .max => arg2 as fun a b => int2 a b fun a b => .ok (.int (max a b)) h
  | .min => arg2 as fun a b => int2 a b fun a b => .ok (.int (min a b)) h
  | .abs => arg1 as fun a => int1 a fun a => .ok (.int a.natAbs) h
  | .int => arg1 as fun a => bool1 a fun b => .ok (.int (if b then 1 else 0)) h

noncomputable def strOf : V → Option Str
  | .str s => some s
  | _ => Option.none

noncomputable def joinop (sep : Str) (a : V) (h : H) : Res V :=
  some1 (asList h a) fun vs => some1 (vs.mapM strOf) fun ss => when1 (decide ((ss.map (·.length)).sum + ss.length * sep.length ≤ 2 ^ 20)) (.ok (.str (Str.join sep ss)) h)

noncomputable def iInt (a : V) (h : H) : Res V :=
  match a with
  | .int _ => .ok (.bool true) h
  | .bool _ => .ok (.bool true) h
  | .none => .ok (.bool false) h
  | .str _ => .ok (.bool false) h
  | .tup _ => .ok (.bool false) h
  | .lst _ => .ok (.bool false) h
  | _ => .stuck
noncomputable def iBool (a : V) (h : H) : Res V :=
  match a with
  | .bool _ => .ok (.bool true) h
  | .int _ => .ok (.bool false) h
  | .none => .ok (.bool false) h
  | _ => .stuck
noncomputable def iStr (a : V) (h : H) : Res V :=
  match a with
  | .str _ => .ok (.bool true) h
  | _ => .stuck
noncomputable def iList (a : V) (h : H) : Res V :=
  match a with
  | .lst _ => .ok (.bool true) h
  | .ref i => match h[i]? with
    | some (.list _) => .ok (.bool true) h
    | _ => .stuck
  | _ => .stuck
noncomputable def iTup (a : V) (h : H) : Res V :=
  match a with
  | .tup _ => .ok (.bool true) h
  | _ => .stuck
noncomputable def iCls (T : Tab) (d : Nat) (a : V) (h : H) : Res V :=
  match a with
  | .exc c => some1 (T.mro c) fun m => .ok (.bool (m.contains d)) h
  | _ => .stuck
noncomputable def iVerr (T : Tab) (a : V) (h : H) : Res V :=
  match a with
  | .exc c => some1 (T.mro c) fun _ => .ok (.bool true) h
  | _ => .stuck
noncomputable def isiop (T : Tab) (a : V) (t : Ty) (h : H) : Res V :=
  match t with
  | .int => iInt a h
  | .bool => iBool a h
  | .str => iStr a h
  | .list => iList a h
  | .tuple => iTup a h
  | .cls d => iCls T d a h
  | .verr => iVerr T a h

noncomputable def appendop (o x : V) (h : H) : Res V := list1 o h fun i vs => when1 (decide (vs.length < 2 ^ 20)) (.ok .none (h.set i (.list (vs ++ [x]))))


noncomputable def setattrop (T : Tab) (o : V) (n : Nat) (v : V) (h : H) : Res Unit := inst1 o h fun i c fs => some1 (T.init c) fun _ => when1 (decide (fs.length < 1000)) (.ok () (h.set i (.inst c (setF fs n v))))

noncomputable def setitemop (o i v : V) (h : H) : Res Unit := list1 o h fun a vs => int1 i fun i => some1 (idx vs.length i) fun k => when1 (decide (0 ≤ i)) (.ok () (h.set a (.list (vs.set k v))))

noncomputable def truthy : V → H → Res Bool
  | .bool b, h => .ok b h
  | _, _ => .stuck

noncomputable def nextOf (src : V) (k : Nat) (h : H) : Option (Option V) :=
  match src with
  | .lst vs => some vs[k]?
  | .rng lo n st => some (if k < n then some (.int (lo + st * k)) else Option.none)
  | .ref i => match h[i]? with
    | some (.list vs) => some vs[k]?
    | _ => Option.none
  | _ => Option.none

noncomputable def srcLen (src : V) (h : H) : Nat :=
  match src with
  | .lst vs => vs.length
  | .rng _ n _ => n
  | .ref i => match h[i]? with
    | some (.list vs) => vs.length
    | _ => 0
  | _ => 0

noncomputable def loopFor (src : V) (body : V → L → H → Res (Fl × L)) : Nat → Nat → L → H → Res (Fl × L)
  | 0, _, _, _ => .stuck
  | n + 1, k, l, h => match nextOf src k h with
    | Option.none => .stuck
    | some Option.none => .ok (.next, l) h
    | some (some v) => match body v l h with
      | .ok (.next, l') h' => loopFor src body n (k + 1) l' h'
      | .ok (.cont, l') h' => loopFor src body n (k + 1) l' h'
      | .ok (.ret v, l') h' => .ok (.ret v, l') h'
      | _ => .stuck

noncomputable def loopComp (src : V) (cond : V → H → Res Bool) (elt : V → H → Res V) : Nat → Nat → List V → H → Res (List V)
  | 0, _, _, _ => .stuck
  | n + 1, k, acc, h => match nextOf src k h with
    | Option.none => .stuck
    | some Option.none => .ok acc h
    | some (some v) => match cond v h with
      | .ok true h => (match elt v h with
        | .ok x h => if acc.length < 2 ^ 20 then loopComp src cond elt n (k + 1) (acc ++ [x]) h else .stuck
        | .exc c h => .exc c h
        | .stuck => .stuck)
      | .ok false h => loopComp src cond elt n (k + 1) acc h
      | _ => .stuck

noncomputable def loopWhile (cond : L → H → Res Bool) (body : L → H → Res (Fl × L)) : Nat → L → H → Res (Fl × L)
  | 0, _, _ => .stuck
  | n + 1, l, h => match cond l h with
    | .ok false h => .ok (.next, l) h
    | .ok true h => (match body l h with
      | .ok (.next, l') h' => loopWhile cond body n l' h'
      | .ok (.cont, l') h' => loopWhile cond body n l' h'
      | .ok (.ret v, l') h' => .ok (.ret v, l') h'
      | _ => .stuck)
    | _ => .stuck

noncomputable def methOf (T : Tab) (x : V) (n : Nat) (h : H) : Option Nat :=
  match x with
  | .ref i => match h[i]? with
    | some (.inst c fs) => match T.init c, T.meth c n with
      | some _, some f => if (getF fs n).isNone then some f else Option.none
      | _, _ => Option.none
    | _ => Option.none
  | _ => Option.none
noncomputable def isLive (x : V) (h : H) : Bool :=
  match x with
  | .ref i => match h[i]? with
    | some (.list _) => true
    | _ => false
  | _ => false

noncomputable def Res.sbind {α : Type} (l : L) : Res α → (α → H → Res (Fl × L)) → Res (Fl × L)
  | .ok a h, f => f a h
  | .exc c h, _ => .ok (.exc c, l) h
  | .stuck, _ => .stuck

section
variable (T : Tab)
mutual
noncomputable def aeval : CE → L → H → Res V
  | .var j, l, h => match l[j]? with
    | some (some v) => .ok v h
    | _ => .stuck
  | .none, _, h => .ok .none h
  | .bool b, _, h => .ok (.bool b) h
  | .int i, _, h => .ok (.int i) h
  | .str s, _, h => .ok (.str s) h
  | .bin m op a b, l, h => (aeval a l h).bind fun x h => (aeval b l h).bind fun y h => binop m op x y h
  | .neg a, l, h => (aeval a l h).bind fun x h => match x with
    | .int i => .ok (.int (-i)) h
    | _ => .stuck
  | .not a, l, h => (aeval a l h).bind fun x h => (truthy x h).bind fun b h => .ok (.bool (!b)) h
  | .and a b, l, h => (aeval a l h).bind fun x h => (truthy x h).bind fun c h => match c with
    | true => aeval b l h
    | false => .ok x h
  | .or a b, l, h => (aeval a l h).bind fun x h => (truthy x h).bind fun c h => match c with
    | true => .ok x h
    | false => aeval b l h
  | .cmp op a b, l, h => (aeval a l h).bind fun x h => (aeval b l h).bind fun y h => cmpop op x y h
  | .cmp2 o1 o2 a b c, l, h => (aeval a l h).bind fun x h => (aeval b l h).bind fun y h => (cmpop o1 x y h).bind fun r h => (truthy r h).bind fun t h => match t with
    | true => (aeval c l h).bind fun z h => cmpop o2 y z h
    | false => .ok r h
  | .sub a i, l, h => (aeval a l h).bind fun x h => (aeval i l h).bind fun y h => subop x y h
  | .slice m a lo hi, l, h => (aeval a l h).bind fun x h => (aeval lo l h).bind fun y h => (aeval hi l h).bind fun z h => sliceop m x y z h
  | .attr a n, l, h => (aeval a l h).bind fun x h => attrop T x n h
  | .call f as, l, h => (aevals as l h).bind fun vs h => T.F f vs h
  | .new c as, l, h => (aevals as l h).bind fun vs h => match T.init c with
    | some f => (T.F f (.ref h.length :: vs) (h ++ [.inst c []])).bind fun r h' => match r with
      | .none => .ok (.ref h.length) h'
      | _ => .stuck
    | Option.none => .stuck
  | .meth n o as, l, h => (aeval o l h).bind fun x h => match methOf T x n h with
    | some f => (aevals as l h).bind fun vs h' => T.F f (x :: vs) h'
    | Option.none => .stuck
  | .prim p as, l, h => (aevals as l h).bind fun vs h => primop p vs h
  | .join sep a, l, h => (aeval a l h).bind fun x h => joinop sep x h
  | .isi a t, l, h => (aeval a l h).bind fun x h => isiop T x t h
  | .append o x, l, h => (aeval o l h).bind fun a h => if isLive a h then (aeval x l h).bind fun v h => appendop a v h else .stuck
  | .setdef _ _ _, _, _ => .stuck
  | .list m es, l, h => (aevals es l h).bind fun vs h => newList m vs h
  | .rep m es n, l, h => (aevals es l h).bind fun vs h => if vs.length ≤ 1000 ∧ vs ≠ [] then (aeval n l h).bind fun x h => (match x with
    | .int y => if 0 ≤ y ∧ y ≤ 1000 then newList m (List.replicate y.toNat vs).flatten h else .stuck
    | _ => .stuck) else .stuck
  | .tup es, l, h => (aevals es l h).bind fun vs h => if vs.length ≤ 2 ^ 20 then .ok (.tup vs) h else .stuck
  | .dict, _, h => .ok (.ref h.length) (h ++ [.dict []])
  | .comp m elt it, l, h => (aeval it l h).bind fun src h =>
      (loopComp src (fun _ h => .ok true h) (fun v h => aeval elt (some v :: l) h) (srcLen src h + 1) 0 [] h).bind fun vs h => newList m vs h
  | .compIf m elt it cond, l, h => (aeval it l h).bind fun src h =>
      (loopComp src (fun v h => (aeval cond (some v :: l) h).bind truthy) (fun v h => aeval elt (some v :: l) h) (srcLen src h + 1) 0 [] h).bind fun vs h => newList m vs h
noncomputable def aevals : List CE → L → H → Res (List V)
  | [], _, h => .ok [] h
  | e :: es, l, h => (aeval e l h).bind fun v h => (aevals es l h).bind fun vs h => .ok (v :: vs) h
end

noncomputable def atrue (c : CE) (l : L) (h : H) : Res Bool := (aeval T c l h).bind truthy

noncomputable def noExc : Res (Fl × L) → Res (Fl × L)
  | .ok (.exc _, _) _ => .stuck
  | r => r

noncomputable def retOnly : Res (Fl × L) → Res (Fl × L)
  | .ok (.ret v, l) h => .ok (.ret v, l.map fun _ => Option.none) h
  | _ => .stuck

mutual
noncomputable def aexec : CS → L → H → Res (Fl × L)
  | .assign j e, l, h => (aeval T e l h).sbind l fun v h => .ok (.next, l.set j (some v)) h
  | .setattr o n e, l, h => (aeval T e l h).sbind l fun v h => (aeval T o l h).sbind l fun x h => (setattrop T x n v h).sbind l fun _ h => .ok (.next, l) h
  | .setitem o i e, l, h => (aeval T e l h).sbind l fun v h => (aeval T o l h).sbind l fun x h => (aeval T i l h).sbind l fun y h => (setitemop x y v h).sbind l fun _ h => .ok (.next, l) h
  | .expr e, l, h => (aeval T e l h).sbind l fun _ h => .ok (.next, l) h
  | .ite c t e, l, h => (atrue T c l h).sbind l fun b h => match b with
    | true => aexecs t l h
    | false => aexecs e l h
  | .for j it body, l, h => (aeval T it l h).sbind l fun src h =>
      loopFor src (fun v l h => aexecs body (l.set j (some v)) h) (srcLen src h + 1) 0 l h
  | .while c body, l, h => loopWhile (fun l h => atrue T c l h) (fun l h => aexecs body l h) 4096 l h
  | .ret e, l, h => (aeval T e l h).sbind l fun v h => .ok (.ret v, l) h
  | .raise c, l, h => .ok (.exc c, l) h
  | .try body hs, l, h => (aexecs body l h).bind fun r h => match r with
    | (.exc c, l') => ahandle hs c l' h
    | (f, l') => .ok (f, l') h
  | .pass, l, h => .ok (.next, l) h
  | .cont, l, h => .ok (.cont, l) h
  | .bad, _, _ => .stuck
noncomputable def aexecs : List CS → L → H → Res (Fl × L)
  | [], l, h => .ok (.next, l) h
  | s :: ss, l, h => (aexec s l h).bind fun r h => match r with
    | (.next, l') => aexecs ss l' h
    | (f, l') => .ok (f, l') h
noncomputable def ahandle : List CH → Nat → L → H → Res (Fl × L)
  | [], _, _, _ => .stuck
  | .mk cs bind body :: r, c, l, h => some1 (T.mro c) fun m =>
    if cs.any m.contains then
      (match bind with
      | Option.none => when1 (T.flat c) (noExc (aexecs body l h))
      | some j => retOnly (aexecs body (l.set j (some (.exc c))) h))
    else ahandle r c l h
end

noncomputable def Fl.isExc : Fl → Bool
  | .exc _ => true
  | _ => false
noncomputable def flV : Fl → V
  | .ret v => v
  | _ => .none

structure Fn where
  params : Nat
  slots : Nat
  body : List CS
  pure : Bool := true
  frz : Bool := true

noncomputable def freeze (frz : Bool) (n : Nat) (v : V) (h : H) : V × H :=
  match frz, v with
  | true, .ref i => if n ≤ i then (match h[i]? with
    | some (.list vs) => (.lst vs, h.set i .dead)
    | _ => (v, h)) else (v, h)
  | _, _ => (v, h)

open Classical in
noncomputable def tidy (pure : Bool) (h₀ : H) (v : V) (h : H) : Res V :=
  if pure then (if h.take h₀.length = h₀ ∧ v.under h₀.length = true then .ok v h₀ else .stuck) else .ok v h

open Classical in
noncomputable def tidyE (pure : Bool) (h₀ : H) (c : Nat) (h : H) : Res V :=
  if pure then (if h.take h₀.length = h₀ then .exc c h₀ else .stuck) else .exc c h

open Classical in
noncomputable def endFn (fn : Fn) (h : H) : Res (Fl × L) → Res V
  | .ok (.exc c, _) h' => tidyE fn.pure h c h'
  | .ok (f, _) h' =>
    let r := freeze fn.frz h.length (flV f) h'
    tidy fn.pure h r.1 r.2
  | _ => .stuck

noncomputable def runFn (fn : Fn) (args : List V) (h : H) : Res V :=
  if args.length = fn.params then
    endFn fn h (aexecs T fn.body (args.map some ++ List.replicate (fn.slots - fn.params) Option.none) h)
  else .stuck
end
end Mine.Internal
namespace Mine.Internal
open PySem
theorem dif_of {c : Prop} [Decidable c] {f : c → Bool} (h : (if q : c then f q else false) = true) : ∃ q, f q = true := by
  by_cases q : c
  · exact ⟨q, by rwa [dif_pos q] at h⟩
  · rw [dif_neg q] at h; cases h
noncomputable def l1 {α : Type} (l : List α) (k : α → Bool) : Bool := match l with
  | [a] => k a
  | _ => false
theorem l1_el {α : Type} {l : List α} {k : α → Bool} (M : List α → Prop) (h : l1 l k = true) (f : ∀ a, k a = true → M [a]) : M l := by
  cases l with
  | nil => cases h
  | cons a l =>
    cases l with
    | nil => exact f a h
    | cons => cases h
noncomputable def l2 {α : Type} (l : List α) (k : α → α → Bool) : Bool := match l with
  | [a, b] => k a b
  | _ => false
theorem l2_el {α : Type} {l : List α} {k : α → α → Bool} (M : List α → Prop) (h : l2 l k = true) (f : ∀ a b, k a b = true → M [a, b]) : M l := by
  cases l with
  | nil => cases h
  | cons a l =>
    cases l with
    | nil => cases h
    | cons b l =>
      cases l with
      | nil => exact f a b h
      | cons => cases h
noncomputable def o1 {α : Type} (l : Option α) (k : α → Bool) : Bool := match l with
  | some a => k a
  | none => false
theorem o1_el {α : Type} {l : Option α} {k : α → Bool} (M : Option α → Prop) (h : o1 l k = true) (f : ∀ a, k a = true → M (some a)) : M l := by
  cases l with
  | none => cases h
  | some a => exact f a h
theorem o1_of {α : Type} {l : Option α} {k : α → Bool} (h : o1 l k = true) : ∃ a, l = some a ∧ k a = true := o1_el (fun l => ∃ a, l = some a ∧ k a = true) h fun a h => ⟨a, rfl, h⟩
theorem nil_el {α : Type} {l : List α} (M : List α → Prop) (h : l.isEmpty = true) (f : M []) : M l := by
  cases l with
  | nil => exact f
  | cons => cases h
theorem no_el {α : Type} {l : Option α} (M : Option α → Prop) (h : l.isNone = true) (f : M none) : M l := by
  cases l with
  | none => exact f
  | some => cases h
theorem and_of {a b : Bool} (h : (a && b) = true) : a = true ∧ b = true := Bool.and_eq_true_iff.mp h
theorem beq_el {α : Type} [BEq α] [LawfulBEq α] {a b : α} (M : α → Prop) (h : (a == b) = true) (f : M b) : M a := eq_of_beq h ▸ f
theorem beq_er {α : Type} [BEq α] [LawfulBEq α] {a b : α} (M : α → Prop) (h : (a == b) = true) (f : M a) : M b := eq_of_beq h ▸ f
noncomputable def eName (e : Expr) (k : Str → Bool) : Bool := if h : e.ctorIdx = 23 then @Expr.Name.elim (fun _ => Bool) e h (fun x0 _ => k x0) else false
theorem eName_el {e : Expr} {k : Str → Bool} (M : Expr → Prop) (h : eName e k = true) (f : ∀ x0 p0, k x0 = true → M (.Name x0 p0)) : M e := @Expr.Name.elim (fun e => eName e k = true → M e) e (dif_of h).1 f h
noncomputable def eConst (e : Expr) (k : Const → Bool) : Bool := if h : e.ctorIdx = 19 then @Expr.Constant.elim (fun _ => Bool) e h (fun x0 _ _ => k x0) else false
theorem eConst_el {e : Expr} {k : Const → Bool} (M : Expr → Prop) (h : eConst e k = true) (f : ∀ x0 p0 p1, k x0 = true → M (.Constant x0 p0 p1)) : M e := @Expr.Constant.elim (fun e => eConst e k = true → M e) e (dif_of h).1 f h
noncomputable def eAttr (e : Expr) (k : Expr → Str → Bool) : Bool := if h : e.ctorIdx = 20 then @Expr.Attribute.elim (fun _ => Bool) e h (fun x0 x1 _ => k x0 x1) else false
theorem eAttr_el {e : Expr} {k : Expr → Str → Bool} (M : Expr → Prop) (h : eAttr e k = true) (f : ∀ x0 x1 p0, k x0 x1 = true → M (.Attribute x0 x1 p0)) : M e := @Expr.Attribute.elim (fun e => eAttr e k = true → M e) e (dif_of h).1 f h
noncomputable def eSubs (e : Expr) (k : Expr → Expr → Bool) : Bool := if h : e.ctorIdx = 21 then @Expr.Subscript.elim (fun _ => Bool) e h (fun x0 x1 _ => k x0 x1) else false
theorem eSubs_el {e : Expr} {k : Expr → Expr → Bool} (M : Expr → Prop) (h : eSubs e k = true) (f : ∀ x0 x1 p0, k x0 x1 = true → M (.Subscript x0 x1 p0)) : M e := @Expr.Subscript.elim (fun e => eSubs e k = true → M e) e (dif_of h).1 f h
noncomputable def eCall (e : Expr) (k : Expr → List Expr → List Keyword → Bool) : Bool := if h : e.ctorIdx = 16 then @Expr.Call.elim (fun _ => Bool) e h (fun x0 x1 x2 _ => k x0 x1 x2) else false
theorem eCall_el {e : Expr} {k : Expr → List Expr → List Keyword → Bool} (M : Expr → Prop) (h : eCall e k = true) (f : ∀ x0 x1 x2 p0, k x0 x1 x2 = true → M (.Call x0 x1 x2 p0)) : M e := @Expr.Call.elim (fun e => eCall e k = true → M e) e (dif_of h).1 f h
noncomputable def eList (e : Expr) (k : List Expr → Bool) : Bool := if h : e.ctorIdx = 24 then @Expr.List.elim (fun _ => Bool) e h (fun x0 _ => k x0) else false
theorem eList_el {e : Expr} {k : List Expr → Bool} (M : Expr → Prop) (h : eList e k = true) (f : ∀ x0 p0, k x0 = true → M (.List x0 p0)) : M e := @Expr.List.elim (fun e => eList e k = true → M e) e (dif_of h).1 f h
noncomputable def eSlice (e : Expr) (k : Option Expr → Option Expr → Option Expr → Bool) : Bool := if h : e.ctorIdx = 26 then @Expr.Slice.elim (fun _ => Bool) e h (fun x0 x1 x2 _ => k x0 x1 x2) else false
theorem eSlice_el {e : Expr} {k : Option Expr → Option Expr → Option Expr → Bool} (M : Expr → Prop) (h : eSlice e k = true) (f : ∀ x0 x1 x2 p0, k x0 x1 x2 = true → M (.Slice x0 x1 x2 p0)) : M e := @Expr.Slice.elim (fun e => eSlice e k = true → M e) e (dif_of h).1 f h
noncomputable def eBin (e : Expr) (k : Expr → Operator → Expr → Bool) : Bool := if h : e.ctorIdx = 2 then @Expr.BinOp.elim (fun _ => Bool) e h (fun x0 x1 x2 _ => k x0 x1 x2) else false
theorem eBin_el {e : Expr} {k : Expr → Operator → Expr → Bool} (M : Expr → Prop) (h : eBin e k = true) (f : ∀ x0 x1 x2 p0, k x0 x1 x2 = true → M (.BinOp x0 x1 x2 p0)) : M e := @Expr.BinOp.elim (fun e => eBin e k = true → M e) e (dif_of h).1 f h
noncomputable def eUn (e : Expr) (k : UnaryOp → Expr → Bool) : Bool := if h : e.ctorIdx = 3 then @Expr.UnaryOp.elim (fun _ => Bool) e h (fun x0 x1 _ => k x0 x1) else false
theorem eUn_el {e : Expr} {k : UnaryOp → Expr → Bool} (M : Expr → Prop) (h : eUn e k = true) (f : ∀ x0 x1 p0, k x0 x1 = true → M (.UnaryOp x0 x1 p0)) : M e := @Expr.UnaryOp.elim (fun e => eUn e k = true → M e) e (dif_of h).1 f h
noncomputable def eBo (e : Expr) (k : BoolOp → List Expr → Bool) : Bool := if h : e.ctorIdx = 0 then @Expr.BoolOp.elim (fun _ => Bool) e h (fun x0 x1 _ => k x0 x1) else false
theorem eBo_el {e : Expr} {k : BoolOp → List Expr → Bool} (M : Expr → Prop) (h : eBo e k = true) (f : ∀ x0 x1 p0, k x0 x1 = true → M (.BoolOp x0 x1 p0)) : M e := @Expr.BoolOp.elim (fun e => eBo e k = true → M e) e (dif_of h).1 f h
noncomputable def eCmp (e : Expr) (k : Expr → List CmpOp → List Expr → Bool) : Bool := if h : e.ctorIdx = 15 then @Expr.Compare.elim (fun _ => Bool) e h (fun x0 x1 x2 _ => k x0 x1 x2) else false
theorem eCmp_el {e : Expr} {k : Expr → List CmpOp → List Expr → Bool} (M : Expr → Prop) (h : eCmp e k = true) (f : ∀ x0 x1 x2 p0, k x0 x1 x2 = true → M (.Compare x0 x1 x2 p0)) : M e := @Expr.Compare.elim (fun e => eCmp e k = true → M e) e (dif_of h).1 f h
noncomputable def eTup (e : Expr) (k : List Expr → Bool) : Bool := if h : e.ctorIdx = 25 then @Expr.Tuple.elim (fun _ => Bool) e h (fun x0 _ _ => k x0) else false
theorem eTup_el {e : Expr} {k : List Expr → Bool} (M : Expr → Prop) (h : eTup e k = true) (f : ∀ x0 p0 p1, k x0 = true → M (.Tuple x0 p0 p1)) : M e := @Expr.Tuple.elim (fun e => eTup e k = true → M e) e (dif_of h).1 f h
noncomputable def eLC (e : Expr) (k : Expr → List Comprehension → Scope → Bool) : Bool := if h : e.ctorIdx = 8 then @Expr.ListComp.elim (fun _ => Bool) e h (fun x0 x1 x2 _ => k x0 x1 x2) else false
theorem eLC_el {e : Expr} {k : Expr → List Comprehension → Scope → Bool} (M : Expr → Prop) (h : eLC e k = true) (f : ∀ x0 x1 x2 p0, k x0 x1 x2 = true → M (.ListComp x0 x1 x2 p0)) : M e := @Expr.ListComp.elim (fun e => eLC e k = true → M e) e (dif_of h).1 f h
noncomputable def eCallP (e : Expr) (k : Expr → List Expr → List Keyword → Pos → Bool) : Bool := if h : e.ctorIdx = 16 then @Expr.Call.elim (fun _ => Bool) e h (fun x0 x1 x2 x3 => k x0 x1 x2 x3) else false
theorem eCallP_el {e : Expr} {k : Expr → List Expr → List Keyword → Pos → Bool} (M : Expr → Prop) (h : eCallP e k = true) (f : ∀ x0 x1 x2 x3, k x0 x1 x2 x3 = true → M (.Call x0 x1 x2 x3)) : M e := @Expr.Call.elim (fun e => eCallP e k = true → M e) e (dif_of h).1 f h
noncomputable def eAttrP (e : Expr) (k : Expr → Str → Pos → Bool) : Bool := if h : e.ctorIdx = 20 then @Expr.Attribute.elim (fun _ => Bool) e h (fun x0 x1 x2 => k x0 x1 x2) else false
theorem eAttrP_el {e : Expr} {k : Expr → Str → Pos → Bool} (M : Expr → Prop) (h : eAttrP e k = true) (f : ∀ x0 x1 x2, k x0 x1 x2 = true → M (.Attribute x0 x1 x2)) : M e := @Expr.Attribute.elim (fun e => eAttrP e k = true → M e) e (dif_of h).1 f h
noncomputable def cBool (e : Const) (k : Bool → Bool) : Bool := if h : e.ctorIdx = 1 then @Const.bool.elim (fun _ => Bool) e h (fun x0 => k x0) else false
theorem cBool_el {e : Const} {k : Bool → Bool} (M : Const → Prop) (h : cBool e k = true) (f : ∀ x0, k x0 = true → M (.bool x0)) : M e := @Const.bool.elim (fun e => cBool e k = true → M e) e (dif_of h).1 f h
noncomputable def cInt (e : Const) (k : Int → Bool) : Bool := if h : e.ctorIdx = 2 then @Const.int.elim (fun _ => Bool) e h (fun x0 => k x0) else false
theorem cInt_el {e : Const} {k : Int → Bool} (M : Const → Prop) (h : cInt e k = true) (f : ∀ x0, k x0 = true → M (.int x0)) : M e := @Const.int.elim (fun e => cInt e k = true → M e) e (dif_of h).1 f h
noncomputable def sReturn (e : Stmt) (k : Option Expr → Bool) : Bool := if h : e.ctorIdx = 3 then @Stmt.Return.elim (fun _ => Bool) e h (fun x0 _ => k x0) else false
theorem sReturn_el {e : Stmt} {k : Option Expr → Bool} (M : Stmt → Prop) (h : sReturn e k = true) (f : ∀ x0 p0, k x0 = true → M (.Return x0 p0)) : M e := @Stmt.Return.elim (fun e => sReturn e k = true → M e) e (dif_of h).1 f h
noncomputable def sAssign (e : Stmt) (k : List Expr → Expr → Bool) : Bool := if h : e.ctorIdx = 5 then @Stmt.Assign.elim (fun _ => Bool) e h (fun x0 x1 _ => k x0 x1) else false
theorem sAssign_el {e : Stmt} {k : List Expr → Expr → Bool} (M : Stmt → Prop) (h : sAssign e k = true) (f : ∀ x0 x1 p0, k x0 x1 = true → M (.Assign x0 x1 p0)) : M e := @Stmt.Assign.elim (fun e => sAssign e k = true → M e) e (dif_of h).1 f h
noncomputable def sFor (e : Stmt) (k : Expr → Expr → List Stmt → List Stmt → Bool) : Bool := if h : e.ctorIdx = 9 then @Stmt.For.elim (fun _ => Bool) e h (fun x0 x1 x2 x3 _ => k x0 x1 x2 x3) else false
theorem sFor_el {e : Stmt} {k : Expr → Expr → List Stmt → List Stmt → Bool} (M : Stmt → Prop) (h : sFor e k = true) (f : ∀ x0 x1 x2 x3 p0, k x0 x1 x2 x3 = true → M (.For x0 x1 x2 x3 p0)) : M e := @Stmt.For.elim (fun e => sFor e k = true → M e) e (dif_of h).1 f h
noncomputable def sWhile (e : Stmt) (k : Expr → List Stmt → List Stmt → Bool) : Bool := if h : e.ctorIdx = 11 then @Stmt.While.elim (fun _ => Bool) e h (fun x0 x1 x2 _ => k x0 x1 x2) else false
theorem sWhile_el {e : Stmt} {k : Expr → List Stmt → List Stmt → Bool} (M : Stmt → Prop) (h : sWhile e k = true) (f : ∀ x0 x1 x2 p0, k x0 x1 x2 = true → M (.While x0 x1 x2 p0)) : M e := @Stmt.While.elim (fun e => sWhile e k = true → M e) e (dif_of h).1 f h
noncomputable def sIf (e : Stmt) (k : Expr → List Stmt → List Stmt → Bool) : Bool := if h : e.ctorIdx = 12 then @Stmt.If.elim (fun _ => Bool) e h (fun x0 x1 x2 _ => k x0 x1 x2) else false
theorem sIf_el {e : Stmt} {k : Expr → List Stmt → List Stmt → Bool} (M : Stmt → Prop) (h : sIf e k = true) (f : ∀ x0 x1 x2 p0, k x0 x1 x2 = true → M (.If x0 x1 x2 p0)) : M e := @Stmt.If.elim (fun e => sIf e k = true → M e) e (dif_of h).1 f h
noncomputable def sRaise (e : Stmt) (k : Option Expr → Option Expr → Bool) : Bool := if h : e.ctorIdx = 16 then @Stmt.Raise.elim (fun _ => Bool) e h (fun x0 x1 _ => k x0 x1) else false
theorem sRaise_el {e : Stmt} {k : Option Expr → Option Expr → Bool} (M : Stmt → Prop) (h : sRaise e k = true) (f : ∀ x0 x1 p0, k x0 x1 = true → M (.Raise x0 x1 p0)) : M e := @Stmt.Raise.elim (fun e => sRaise e k = true → M e) e (dif_of h).1 f h
noncomputable def sTry (e : Stmt) (k : List Stmt → List ExceptHandler → List Stmt → List Stmt → Bool) : Bool := if h : e.ctorIdx = 17 then @Stmt.Try.elim (fun _ => Bool) e h (fun x0 x1 x2 x3 _ => k x0 x1 x2 x3) else false
theorem sTry_el {e : Stmt} {k : List Stmt → List ExceptHandler → List Stmt → List Stmt → Bool} (M : Stmt → Prop) (h : sTry e k = true) (f : ∀ x0 x1 x2 x3 p0, k x0 x1 x2 x3 = true → M (.Try x0 x1 x2 x3 p0)) : M e := @Stmt.Try.elim (fun e => sTry e k = true → M e) e (dif_of h).1 f h
noncomputable def sExpr (e : Stmt) (k : Expr → Bool) : Bool := if h : e.ctorIdx = 24 then @Stmt.Expr.elim (fun _ => Bool) e h (fun x0 _ => k x0) else false
theorem sExpr_el {e : Stmt} {k : Expr → Bool} (M : Stmt → Prop) (h : sExpr e k = true) (f : ∀ x0 p0, k x0 = true → M (.Expr x0 p0)) : M e := @Stmt.Expr.elim (fun e => sExpr e k = true → M e) e (dif_of h).1 f h
noncomputable def sPass (e : Stmt) (k : Bool) : Bool := if h : e.ctorIdx = 25 then @Stmt.Pass.elim (fun _ => Bool) e h (fun _ => k) else false
theorem sPass_el {e : Stmt} {k : Bool} (M : Stmt → Prop) (h : sPass e k = true) (f : ∀ p0, k = true → M (.Pass p0)) : M e := @Stmt.Pass.elim (fun e => sPass e k = true → M e) e (dif_of h).1 f h
noncomputable def sCont (e : Stmt) (k : Bool) : Bool := if h : e.ctorIdx = 27 then @Stmt.Continue.elim (fun _ => Bool) e h (fun _ => k) else false
theorem sCont_el {e : Stmt} {k : Bool} (M : Stmt → Prop) (h : sCont e k = true) (f : ∀ p0, k = true → M (.Continue p0)) : M e := @Stmt.Continue.elim (fun e => sCont e k = true → M e) e (dif_of h).1 f h
noncomputable def cNone (e : Const) (k : Bool) : Bool := if h : e.ctorIdx = 0 then @Const.none.elim (fun _ => Bool) e h (k) else false
theorem cNone_el {e : Const} {k : Bool} (M : Const → Prop) (h : cNone e k = true) (f : k = true → M .none) : M e := @Const.none.elim (fun e => cNone e k = true → M e) e (dif_of h).1 f h
noncomputable def cStr (e : Const) (k : Str → Bool) : Bool := if h : e.ctorIdx = 5 then @Const.str.elim (fun _ => Bool) e h (fun x0 => k x0) else false
theorem cStr_el {e : Const} {k : Str → Bool} (M : Const → Prop) (h : cStr e k = true) (f : ∀ x0, k x0 = true → M (.str x0)) : M e := @Const.str.elim (fun e => cStr e k = true → M e) e (dif_of h).1 f h
noncomputable def vInt (e : Value) (k : Int → Bool) : Bool := if h : e.ctorIdx = 4 then @Value.int.elim (fun _ => Bool) e h (fun x0 _ => k x0) else false
theorem vInt_el {e : Value} {k : Int → Bool} (M : Value → Prop) (h : vInt e k = true) (f : ∀ x0 p0, k x0 = true → M (.int x0 p0)) : M e := @Value.int.elim (fun e => vInt e k = true → M e) e (dif_of h).1 f h
noncomputable def vRef (e : Value) (k : Addr → Bool) : Bool := if h : e.ctorIdx = 10 then @Value.ref.elim (fun _ => Bool) e h (fun x0 => k x0) else false
theorem vRef_el {e : Value} {k : Addr → Bool} (M : Value → Prop) (h : vRef e k = true) (f : ∀ x0, k x0 = true → M (.ref x0)) : M e := @Value.ref.elim (fun e => vRef e k = true → M e) e (dif_of h).1 f h
theorem vRef_of {e : Value} {k : Addr → Bool} (h : vRef e k = true) : ∃ x0, e = .ref x0 ∧ k x0 = true := vRef_el (fun e => ∃ x0, e = .ref x0 ∧ k x0 = true) h fun x0 h => ⟨x0, rfl, h⟩
noncomputable def vStr (e : Value) (k : Str → Bool) : Bool := if h : e.ctorIdx = 6 then @Value.str.elim (fun _ => Bool) e h (fun x0 _ => k x0) else false
theorem vStr_el {e : Value} {k : Str → Bool} (M : Value → Prop) (h : vStr e k = true) (f : ∀ x0 p0, k x0 = true → M (.str x0 p0)) : M e := @Value.str.elim (fun e => vStr e k = true → M e) e (dif_of h).1 f h
theorem vStr_of {e : Value} {k : Str → Bool} (h : vStr e k = true) : ∃ x0 p0, e = .str x0 p0 ∧ k x0 = true := vStr_el (fun e => ∃ x0 p0, e = .str x0 p0 ∧ k x0 = true) h fun x0 p0 h => ⟨x0, p0, rfl, h⟩
noncomputable def dFunc (e : Data) (k : FuncData → Bool) : Bool := if h : e.ctorIdx = 7 then @Data.func.elim (fun _ => Bool) e h (fun x0 => k x0) else false
theorem dFunc_el {e : Data} {k : FuncData → Bool} (M : Data → Prop) (h : dFunc e k = true) (f : ∀ x0, k x0 = true → M (.func x0)) : M e := @Data.func.elim (fun e => dFunc e k = true → M e) e (dif_of h).1 f h
theorem dFunc_of {e : Data} {k : FuncData → Bool} (h : dFunc e k = true) : ∃ x0, e = .func x0 ∧ k x0 = true := dFunc_el (fun e => ∃ x0, e = .func x0 ∧ k x0 = true) h fun x0 h => ⟨x0, rfl, h⟩
noncomputable def bStmts (e : FuncBody) (k : List Stmt → Bool) : Bool := if h : e.ctorIdx = 0 then @FuncBody.stmts.elim (fun _ => Bool) e h (fun x0 => k x0) else false
theorem bStmts_el {e : FuncBody} {k : List Stmt → Bool} (M : FuncBody → Prop) (h : bStmts e k = true) (f : ∀ x0, k x0 = true → M (.stmts x0)) : M e := @FuncBody.stmts.elim (fun e => bStmts e k = true → M e) e (dif_of h).1 f h
theorem bStmts_of {e : FuncBody} {k : List Stmt → Bool} (h : bStmts e k = true) : ∃ x0, e = .stmts x0 ∧ k x0 = true := bStmts_el (fun e => ∃ x0, e = .stmts x0 ∧ k x0 = true) h fun x0 h => ⟨x0, rfl, h⟩
noncomputable def dCls (e : Data) (k : ClassData → Bool) : Bool := if h : e.ctorIdx = 8 then @Data.cls.elim (fun _ => Bool) e h (fun x0 => k x0) else false
theorem dCls_el {e : Data} {k : ClassData → Bool} (M : Data → Prop) (h : dCls e k = true) (f : ∀ x0, k x0 = true → M (.cls x0)) : M e := @Data.cls.elim (fun e => dCls e k = true → M e) e (dif_of h).1 f h
theorem dCls_of {e : Data} {k : ClassData → Bool} (h : dCls e k = true) : ∃ x0, e = .cls x0 ∧ k x0 = true := dCls_el (fun e => ∃ x0, e = .cls x0 ∧ k x0 = true) h fun x0 h => ⟨x0, rfl, h⟩
noncomputable def dDict (e : Data) (k : Array DictEntry → Bool) : Bool := if h : e.ctorIdx = 3 then @Data.dict.elim (fun _ => Bool) e h (fun x0 _ => k x0) else false
theorem dDict_el {e : Data} {k : Array DictEntry → Bool} (M : Data → Prop) (h : dDict e k = true) (f : ∀ x0 p0, k x0 = true → M (.dict x0 p0)) : M e := @Data.dict.elim (fun e => dDict e k = true → M e) e (dif_of h).1 f h
theorem dDict_of {e : Data} {k : Array DictEntry → Bool} (h : dDict e k = true) : ∃ x0 p0, e = .dict x0 p0 ∧ k x0 = true := dDict_el (fun e => ∃ x0 p0, e = .dict x0 p0 ∧ k x0 = true) h fun x0 p0 h => ⟨x0, p0, rfl, h⟩
end Mine.Internal
namespace Mine.Internal
open PySem
section
variable {T : Tab} {l : L} {h : H}
theorem ae_var {j : Nat} : aeval T (.var j) l h = (match l[j]? with | some (some v) => .ok v h | _ => .stuck) := (fun _ => rfl : True → _) trivial
theorem ae_none : aeval T .none l h = .ok .none h := (fun _ => rfl : True → _) trivial
theorem ae_boolc {b : Bool} : aeval T (.bool b) l h = .ok (.bool b) h := (fun _ => rfl : True → _) trivial
theorem ae_int {i : Int} : aeval T (.int i) l h = .ok (.int i) h := (fun _ => rfl : True → _) trivial
theorem ae_str {s : Str} : aeval T (.str s) l h = .ok (.str s) h := (fun _ => rfl : True → _) trivial
theorem ae_bin {m : Bool} {op : Bop} {a b : CE} : aeval T (.bin m op a b) l h = (aeval T a l h).bind fun x h => (aeval T b l h).bind fun y h => binop m op x y h := (fun _ => rfl : True → _) trivial
theorem ae_neg {a : CE} : aeval T (.neg a) l h = (aeval T a l h).bind fun x h => match x with | .int i => .ok (.int (-i)) h | _ => .stuck := (fun _ => rfl : True → _) trivial
theorem ae_not {a : CE} : aeval T (.not a) l h = (aeval T a l h).bind fun x h => (truthy x h).bind fun b h => .ok (.bool (!b)) h := (fun _ => rfl : True → _) trivial
theorem ae_and {a b : CE} : aeval T (.and a b) l h = (aeval T a l h).bind fun x h => (truthy x h).bind fun c h => match c with | true => aeval T b l h | false => .ok x h := (fun _ => rfl : True → _) trivial
theorem ae_or {a b : CE} : aeval T (.or a b) l h = (aeval T a l h).bind fun x h => (truthy x h).bind fun c h => match c with | true => .ok x h | false => aeval T b l h := (fun _ => rfl : True → _) trivial
theorem ae_cmp {op : Cop} {a b : CE} : aeval T (.cmp op a b) l h = (aeval T a l h).bind fun x h => (aeval T b l h).bind fun y h => cmpop op x y h := (fun _ => rfl : True → _) trivial
theorem ae_cmp2 {o1 o2 : Cop} {a b c : CE} : aeval T (.cmp2 o1 o2 a b c) l h = (aeval T a l h).bind fun x h => (aeval T b l h).bind fun y h => (cmpop o1 x y h).bind fun r h => (truthy r h).bind fun t h => match t with
    | true => (aeval T c l h).bind fun z h => cmpop o2 y z h
    | false => .ok r h := (fun _ => rfl : True → _) trivial
theorem ae_sub {a i : CE} : aeval T (.sub a i) l h = (aeval T a l h).bind fun x h => (aeval T i l h).bind fun y h => subop x y h := (fun _ => rfl : True → _) trivial
theorem ae_slice {m : Bool} {a lo hi : CE} : aeval T (.slice m a lo hi) l h = (aeval T a l h).bind fun x h => (aeval T lo l h).bind fun y h => (aeval T hi l h).bind fun z h => sliceop m x y z h := (fun _ => rfl : True → _) trivial
theorem ae_attr {a : CE} {n : Nat} : aeval T (.attr a n) l h = (aeval T a l h).bind fun x h => attrop T x n h := (fun _ => rfl : True → _) trivial
theorem ae_call {f : Nat} {as : List CE} : aeval T (.call f as) l h = (aevals T as l h).bind fun vs h => T.F f vs h := (fun _ => rfl : True → _) trivial
theorem ae_new {c : Nat} {as : List CE} : aeval T (.new c as) l h = (aevals T as l h).bind fun vs h => match T.init c with
    | some f => (T.F f (.ref h.length :: vs) (h ++ [.inst c []])).bind fun r h' => match r with
      | .none => .ok (.ref h.length) h'
      | _ => .stuck
    | Option.none => .stuck := (fun _ => rfl : True → _) trivial
theorem ae_meth {n : Nat} {o : CE} {as : List CE} : aeval T (.meth n o as) l h = (aeval T o l h).bind fun x h => match methOf T x n h with
    | some f => (aevals T as l h).bind fun vs h' => T.F f (x :: vs) h'
    | Option.none => .stuck := (fun _ => rfl : True → _) trivial
theorem ae_prim {p : Prim} {as : List CE} : aeval T (.prim p as) l h = (aevals T as l h).bind fun vs h => primop p vs h := (fun _ => rfl : True → _) trivial
theorem ae_join {sep : Str} {a : CE} : aeval T (.join sep a) l h = (aeval T a l h).bind fun x h => joinop sep x h := (fun _ => rfl : True → _) trivial
theorem ae_isi {a : CE} {t : Ty} : aeval T (.isi a t) l h = (aeval T a l h).bind fun x h => isiop T x t h := (fun _ => rfl : True → _) trivial
theorem ae_append {o x : CE} : aeval T (.append o x) l h = (aeval T o l h).bind fun a h => if isLive a h then (aeval T x l h).bind fun v h => appendop a v h else .stuck := (fun _ => rfl : True → _) trivial
theorem ae_list {m : Bool} {es : List CE} : aeval T (.list m es) l h = (aevals T es l h).bind fun vs h => newList m vs h := (fun _ => rfl : True → _) trivial
theorem ae_rep {m : Bool} {es : List CE} {n : CE} : aeval T (.rep m es n) l h = (aevals T es l h).bind fun vs h => if vs.length ≤ 1000 ∧ vs ≠ [] then (aeval T n l h).bind fun x h => (match x with
    | .int y => if 0 ≤ y ∧ y ≤ 1000 then newList m (List.replicate y.toNat vs).flatten h else .stuck
    | _ => .stuck) else .stuck := (fun _ => rfl : True → _) trivial
theorem ae_tup {es : List CE} : aeval T (.tup es) l h = (aevals T es l h).bind fun vs h => if vs.length ≤ 2 ^ 20 then .ok (.tup vs) h else .stuck := (fun _ => rfl : True → _) trivial
theorem ae_comp {m : Bool} {elt it : CE} : aeval T (.comp m elt it) l h = (aeval T it l h).bind fun src h => (loopComp src (fun _ h => .ok true h) (fun a h => aeval T elt (some a :: l) h) (srcLen src h + 1) 0 [] h).bind fun vs h => newList m vs h := (fun _ => rfl : True → _) trivial
theorem ae_compIf {m : Bool} {elt it c : CE} : aeval T (.compIf m elt it c) l h = (aeval T it l h).bind fun src h => (loopComp src (fun a h => (aeval T c (some a :: l) h).bind truthy) (fun a h => aeval T elt (some a :: l) h) (srcLen src h + 1) 0 [] h).bind fun vs h => newList m vs h := (fun _ => rfl : True → _) trivial
theorem aes_nil : aevals T [] l h = .ok [] h := (fun _ => rfl : True → _) trivial
theorem aes_cons {e : CE} {es : List CE} : aevals T (e :: es) l h = (aeval T e l h).bind fun v h => (aevals T es l h).bind fun vs h => .ok (v :: vs) h := (fun _ => rfl : True → _) trivial
theorem ax_assign {j : Nat} {e : CE} : aexec T (.assign j e) l h = (aeval T e l h).sbind l fun v h => .ok (.next, l.set j (some v)) h := (fun _ => rfl : True → _) trivial
theorem ax_setattr {o e : CE} {n : Nat} : aexec T (.setattr o n e) l h = (aeval T e l h).sbind l fun v h => (aeval T o l h).sbind l fun x h => (setattrop T x n v h).sbind l fun _ h => .ok (.next, l) h := (fun _ => rfl : True → _) trivial
theorem ax_setitem {o i e : CE} : aexec T (.setitem o i e) l h = (aeval T e l h).sbind l fun v h => (aeval T o l h).sbind l fun x h => (aeval T i l h).sbind l fun y h => (setitemop x y v h).sbind l fun _ h => .ok (.next, l) h := (fun _ => rfl : True → _) trivial
theorem ax_expr {e : CE} : aexec T (.expr e) l h = (aeval T e l h).sbind l fun _ h => .ok (.next, l) h := (fun _ => rfl : True → _) trivial
theorem ax_ite {c : CE} {t e : List CS} : aexec T (.ite c t e) l h = (atrue T c l h).sbind l fun b h => match b with | true => aexecs T t l h | false => aexecs T e l h := (fun _ => rfl : True → _) trivial
theorem ax_for {j : Nat} {it : CE} {body : List CS} : aexec T (.for j it body) l h = (aeval T it l h).sbind l fun src h => loopFor src (fun v l h => aexecs T body (l.set j (some v)) h) (srcLen src h + 1) 0 l h := (fun _ => rfl : True → _) trivial
theorem ax_while {c : CE} {body : List CS} : aexec T (.while c body) l h = loopWhile (fun l h => atrue T c l h) (fun l h => aexecs T body l h) 4096 l h := (fun _ => rfl : True → _) trivial
theorem ax_ret {e : CE} : aexec T (.ret e) l h = (aeval T e l h).sbind l fun v h => .ok (.ret v, l) h := (fun _ => rfl : True → _) trivial
theorem ax_raise {c : Nat} : aexec T (.raise c) l h = .ok (.exc c, l) h := (fun _ => rfl : True → _) trivial
theorem ax_try {body : List CS} {hs : List CH} : aexec T (.try body hs) l h = (aexecs T body l h).bind fun r h => match r with
    | (.exc c, l') => ahandle T hs c l' h
    | (f, l') => .ok (f, l') h := (fun _ => rfl : True → _) trivial
theorem ah_cons {cs : List Nat} {nm : Option Nat} {body : List CS} {hs : List CH} {c : Nat} {m : List Nat} (e : T.mro c = some m) : ahandle T (.mk cs nm body :: hs) c l h = if cs.any m.contains then (match nm with
      | none => when1 (T.flat c) (noExc (aexecs T body l h))
      | some j => retOnly (aexecs T body (l.set j (some (.exc c))) h)) else ahandle T hs c l h := by
  show some1 (T.mro c) _ = _
  rw [e]; rfl
theorem ah_stuck {cs : List Nat} {nm : Option Nat} {body : List CS} {hs : List CH} {c : Nat} (e : T.mro c = none) : ahandle T (.mk cs nm body :: hs) c l h = .stuck := by
  show some1 (T.mro c) _ = _
  rw [e]; rfl
theorem ah_nil {c : Nat} : ahandle T [] c l h = .stuck := (fun _ => rfl : True → _) trivial
theorem ax_pass : aexec T .pass l h = .ok (.next, l) h := (fun _ => rfl : True → _) trivial
theorem ax_cont : aexec T .cont l h = .ok (.cont, l) h := (fun _ => rfl : True → _) trivial
theorem ax_bad : aexec T .bad l h = .stuck := (fun _ => rfl : True → _) trivial
theorem axs_nil : aexecs T [] l h = .ok (.next, l) h := (fun _ => rfl : True → _) trivial
theorem axs_cons {s : CS} {ss : List CS} : aexecs T (s :: ss) l h = (aexec T s l h).bind fun r h => match r with
    | (.next, l') => aexecs T ss l' h
    | (f, l') => .ok (f, l') h := (fun _ => rfl : True → _) trivial
end
end Mine.Internal
namespace Mine.Internal
open PySem

structure Cfg where
  base : Heap
  nm : Nat → Str
  cls : Nat → Addr
  flat : Nat → Bool
  fb : Addr → Prop := fun _ => False

abbrev Pl := List (Addr × Addr)

section
variable (G : Cfg) (ρ : Pl) (mu : Addr → Prop) (h : Heap)
mutual
inductive VR : V → Value → Prop
  | none : VR .none .none
  | bool (b : Bool) : VR (.bool b) (.bool b)
  | int (i : Int) (t : Tok) : VR (.int i) (.int i t)
  | str (s : Str) (t : Tok) : PyData.strOk s = true → VR (.str s) (.str s t)
  | tup {a : Addr} {o : Obj} {vs : List V} {xs : Array Value} {n : Nat} : h.get? a = some o → ¬ (mu a ∨ G.fb a) → o.cls = .type "tuple" → o.data = .seq xs n → VRs vs xs.toList → vs.length ≤ 2 ^ 20 → VR (.tup vs) (.ref a)
  | lst {a : Addr} {o : Obj} {vs : List V} {xs : Array Value} {n : Nat} : h.get? a = some o → ¬ (mu a ∨ G.fb a) → o.cls = .type "list" → o.data = .seq xs n → VRs vs xs.toList → vs.length ≤ 2 ^ 20 → VR (.lst vs) (.ref a)
  | rng {r : Addr} {a b c : Int} {t u v : Tok} : IsRange h r a b c t u v → ¬ (mu r ∨ G.fb r) → Builtin.Range.small a b c = true → VR (.rng a (Builtin.Range.rangeSize a b c).toNat c) (.ref r)
  | ref {i : Nat} {p : Addr × Addr} : ρ[i]? = some p → VR (.ref i) (.ref p.1)
  | exc {a : Addr} {o : Obj} {c : Nat} : h.get? a = some o → ¬ (mu a ∨ G.fb a) → o.cls = .ref (G.cls c) → (∃ vs, o.data = .fields vs) → VR (.exc c) (.ref a)
inductive VRs : List V → List Value → Prop
  | nil : VRs [] []
  | cons {v : V} {vs : List V} {x : Value} {xs : List Value} : VR v x → VRs vs xs → VRs (v :: vs) (x :: xs)
end
end

structure Ext (ρ : Pl) (mu : Addr → Prop) (h : Heap) (ρ' : Pl) (mu' : Addr → Prop) (h' : Heap) : Prop where
  pl : ∀ (i : Nat) (p : Addr × Addr), ρ[i]? = some p → ρ'[i]? = some p
  dom : ∀ a o, h.get? a = some o → ∃ o', h'.get? a = some o'
  keep : ∀ a o, ¬ mu a → h.get? a = some o → ¬ mu' a ∧ ((o.cls ≠ .type "frame" → h'.get? a = some o) ∧ ∃ sl, h'.get? a = some { o with slots := sl })

theorem Ext.refl (ρ : Pl) (mu : Addr → Prop) (h : Heap) : Ext ρ mu h ρ mu h := ⟨fun _ _ e => e, fun _ o e => ⟨o, e⟩, fun _ o n e => ⟨n, fun _ => e, o.slots, e⟩⟩
theorem Ext.trans {ρ ρ' ρ'' : Pl} {mu mu' mu'' : Addr → Prop} {h h' h'' : Heap} (x : Ext ρ mu h ρ' mu' h') (y : Ext ρ' mu' h' ρ'' mu'' h'') : Ext ρ mu h ρ'' mu'' h'' :=
  ⟨fun i p e => y.pl i p (x.pl i p e), fun a o e => let ⟨o', e'⟩ := x.dom a o e; y.dom a o' e', fun a o n e => by
    obtain ⟨n', k1, sl, k2⟩ := x.keep a o n e
    obtain ⟨n'', l1, sl', l2⟩ := y.keep a _ n' k2
    refine ⟨n'', fun hf => ?_, sl', l2⟩
    obtain ⟨_, l1', _⟩ := y.keep a _ n' (k1 hf)
    exact l1' hf⟩

theorem Ext.of_keeps {ρ : Pl} {mu : Addr → Prop} {h h' : Heap} (k : ∀ b o, h.get? b = some o → h'.get? b = some o) : Ext ρ mu h ρ mu h' :=
  ⟨fun _ _ e => e, fun a o e => ⟨o, k a o e⟩, fun a o n e => ⟨n, fun _ => k a o e, o.slots, k a o e⟩⟩

theorem Ext.keepObj {ρ ρ' : Pl} {mu mu' : Addr → Prop} {h h' : Heap} (x : Ext ρ mu h ρ' mu' h') {a : Addr} {o : Obj} (n : ¬ mu a) (e : h.get? a = some o) (hf : o.cls ≠ .type "frame") : h'.get? a = some o ∧ ¬ mu' a :=
  let ⟨n', k, _⟩ := x.keep a o n e; ⟨k hf, n'⟩

noncomputable def isVal (o : Obj) : Prop := (o.cls = .type "tuple" ∨ o.cls = .type "list" ∨ o.cls = .type "range" ∨ ∃ C, o.cls = .ref C) ∧ ((∃ xs n, o.data = .seq xs n) ∨ ∃ vs, o.data = .fields vs)
theorem isVal.frame {o : Obj} (v : isVal o) : o.cls ≠ .type "frame" := by
  rcases v.1 with q | q | q | ⟨C, q⟩ <;> rw [q] <;> first | decide | (intro z; cases z)

noncomputable def Alike (o o' : Obj) : Prop := o' = o ∨ ((∃ C, o.cls = .ref C) ∧ o'.cls = o.cls ∧ ∃ vs, o'.data = .fields vs)
theorem Alike.trans {o o' o'' : Obj} (x : Alike o o') (y : Alike o' o'') : Alike o o'' := by
  rcases x with rfl | ⟨⟨C, c⟩, e, vs, d⟩
  · exact y
  · rcases y with rfl | ⟨_, e', d'⟩
    · exact .inr ⟨⟨C, c⟩, e, vs, d⟩
    · exact .inr ⟨⟨C, c⟩, e'.trans e, d'⟩
theorem Alike.same {o o' : Obj} {t : String} (x : Alike o o') (c : o.cls = .type t) : o' = o := by
  rcases x with x | ⟨⟨C, q⟩, _⟩
  · exact x
  · rw [c] at q; cases q
theorem Alike.val {o o' : Obj} (x : Alike o o') (v : isVal o) : isVal o' := by
  rcases x with rfl | ⟨⟨C, q⟩, e, d⟩
  · exact v
  · exact ⟨.inr (.inr (.inr ⟨C, e.trans q⟩)), .inr d⟩

structure VK (fb : Addr → Prop) (ρ : Pl) (mu : Addr → Prop) (h : Heap) (ρ' : Pl) (mu' : Addr → Prop) (h' : Heap) : Prop where
  pl : ∀ (i : Nat) (p : Addr × Addr), ρ[i]? = some p → ρ'[i]? = some p
  keep : ∀ a o, ¬ mu a → ¬ fb a → h.get? a = some o → isVal o → ¬ mu' a ∧ ∃ o', h'.get? a = some o' ∧ Alike o o'

theorem Ext.vk {fb : Addr → Prop} {ρ ρ' : Pl} {mu mu' : Addr → Prop} {h h' : Heap} (x : Ext ρ mu h ρ' mu' h') : VK fb ρ mu h ρ' mu' h' :=
  ⟨x.pl, fun _ o n _ e v => let ⟨e', n'⟩ := x.keepObj n e v.frame; ⟨n', o, e', .inl rfl⟩⟩

section
variable {G : Cfg} {ρ ρ' : Pl} {mu mu' : Addr → Prop} {h h' : Heap}
theorem VR.gen {G' : Cfg} {q : Prop} {n : Nat} (hc : G'.cls = G.cls) (k : ∀ a o, ¬ (mu a ∨ G.fb a) → h.get? a = some o → isVal o → ¬ (mu' a ∨ G'.fb a) ∧ ∃ o', h'.get? a = some o' ∧ Alike o o')
    (hp : ∀ (i : Nat) (p : Addr × Addr), (q → (V.ref i).under n = true) → ρ[i]? = some p → ρ'[i]? = some p) {v : V} {y : Value} (r : VR G ρ mu h v y) : (q → v.under n = true) → VR G' ρ' mu' h' v y :=
  @VR.rec G ρ mu h (fun v y _ => (q → v.under n = true) → VR G' ρ' mu' h' v y) (fun vs ys _ => (q → unders n vs = true) → VRs G' ρ' mu' h' vs ys)
    (fun _ => .none) (fun b _ => .bool b) (fun i t _ => .int i t) (fun s t e _ => .str s t e)
    (fun {a o vs xs m} e n' c d _ z ih u => (k a o n' e ⟨.inl c, .inl ⟨_, _, d⟩⟩).2.elim fun o' w => .tup (w.2.same c ▸ w.1) (k a o n' e ⟨.inl c, .inl ⟨_, _, d⟩⟩).1 c d (ih fun z => by have := u z; unfold V.under at this; exact this) z)
    (fun {a o vs xs m} e n' c d _ z ih u => (k a o n' e ⟨.inr (.inl c), .inl ⟨_, _, d⟩⟩).2.elim fun o' w => .lst (w.2.same c ▸ w.1) (k a o n' e ⟨.inr (.inl c), .inl ⟨_, _, d⟩⟩).1 c d (ih fun z => by have := u z; unfold V.under at this; exact this) z)
    (fun {r a b c t u v} e n' s _ => (k r _ n' e ⟨.inr (.inr (.inl rfl)), .inr ⟨_, rfl⟩⟩).2.elim fun o' w => .rng (show h'.get? r = _ from w.2.same rfl ▸ w.1) (k r _ n' e ⟨.inr (.inr (.inl rfl)), .inr ⟨_, rfl⟩⟩).1 s)
    (fun {i p} e u => .ref (hp i p u e))
    (fun {a o c} e n' cc d _ => (k a o n' e ⟨.inr (.inr (.inr ⟨_, cc⟩)), .inr d⟩).2.elim fun o' w => w.2.elim (fun z => .exc (z ▸ w.1) (k a o n' e ⟨.inr (.inr (.inr ⟨_, cc⟩)), .inr d⟩).1 (hc ▸ cc) d) fun z => .exc w.1 (k a o n' e ⟨.inr (.inr (.inr ⟨_, cc⟩)), .inr d⟩).1 (z.2.1.trans (hc ▸ cc)) z.2.2)
    (fun _ => .nil)
    (fun {v vs x xs} _ _ ih1 ih2 u => .cons (ih1 fun z => by have := u z; unfold unders at this; exact (Bool.and_eq_true_iff.mp this).1) (ih2 fun z => by have := u z; unfold unders at this; exact (Bool.and_eq_true_iff.mp this).2)) v y r
theorem VRs.gen {G' : Cfg} {q : Prop} {n : Nat} (f : ∀ {v : V} {y : Value}, VR G ρ mu h v y → (q → v.under n = true) → VR G' ρ' mu' h' v y) : ∀ {vs : List V} {ys : List Value}, VRs G ρ mu h vs ys → (q → unders n vs = true) → VRs G' ρ' mu' h' vs ys
  | [], _, r, _ => by cases r; exact .nil
  | v :: vs, _, r, u => by
    cases r with
    | cons a b => exact .cons (f a fun z => by have := u z; unfold unders at this; exact (Bool.and_eq_true_iff.mp this).1) (VRs.gen f b fun z => by have := u z; unfold unders at this; exact (Bool.and_eq_true_iff.mp this).2)
theorem VR.vk (x : VK G.fb ρ mu h ρ' mu' h') {v : V} {y : Value} (r : VR G ρ mu h v y) : VR G ρ' mu' h' v y :=
  r.gen (q := False) (n := 0) rfl (fun a o n e i => let ⟨a1, a2⟩ := x.keep a o (fun q => n (.inl q)) (fun q => n (.inr q)) e i; ⟨fun q => q.elim a1 fun q => n (.inr q), a2⟩) (fun i p _ e => x.pl i p e) False.elim
theorem VRs.vk (x : VK G.fb ρ mu h ρ' mu' h') {vs : List V} {ys : List Value} (r : VRs G ρ mu h vs ys) : VRs G ρ' mu' h' vs ys := r.gen (q := False) (n := 0) (fun r _ => r.vk x) False.elim
theorem VR.ext (x : Ext ρ mu h ρ' mu' h') {v : V} {y : Value} (r : VR G ρ mu h v y) : VR G ρ' mu' h' v y := r.vk x.vk
theorem VRs.ext (x : Ext ρ mu h ρ' mu' h') {v : List V} {y : List Value} (r : VRs G ρ mu h v y) : VRs G ρ' mu' h' v y := r.vk x.vk
end

section
variable {G : Cfg} {ρ : Pl} {mu : Addr → Prop} {h : Heap}
theorem VRs.length : ∀ {vs : List V} {ys : List Value}, VRs G ρ mu h vs ys → vs.length = ys.length
  | [], _, r => by cases r; rfl
  | v :: vs, _, r => by cases r with | cons a b => exact congrArg (· + 1) b.length
theorem VRs.get : ∀ {vs : List V} {ys : List Value}, VRs G ρ mu h vs ys → ∀ (k : Nat), (vs[k]? = none ∧ ys[k]? = none) ∨ ∃ v y, vs[k]? = some v ∧ ys[k]? = some y ∧ VR G ρ mu h v y
  | [], _, r, _ => by cases r; exact .inl ⟨rfl, rfl⟩
  | v :: vs, _, r, k => by
    cases r with
    | cons a b =>
      cases k with
      | zero => exact .inr ⟨_, _, rfl, rfl, a⟩
      | succ k => exact b.get k
theorem VRs.append : ∀ {vs : List V} {ys : List Value} {vs' : List V} {ys' : List Value}, VRs G ρ mu h vs ys → VRs G ρ mu h vs' ys' → VRs G ρ mu h (vs ++ vs') (ys ++ ys')
  | [], _, _, _, r, b => by cases r; exact b
  | v :: vs, _, _, _, r, b => by cases r with | cons a r => exact .cons a (r.append b)
theorem VRs.drop : ∀ {vs : List V} {ys : List Value}, VRs G ρ mu h vs ys → ∀ (k : Nat), VRs G ρ mu h (vs.drop k) (ys.drop k)
  | [], _, r, k => by cases r; cases k <;> exact .nil
  | v :: vs, _, r, k => by
    cases k with
    | zero => exact r
    | succ k => cases r with | cons a r => exact r.drop k
theorem VRs.take : ∀ {vs : List V} {ys : List Value}, VRs G ρ mu h vs ys → ∀ (k : Nat), VRs G ρ mu h (vs.take k) (ys.take k)
  | [], _, r, k => by cases r; cases k <;> exact .nil
  | v :: vs, _, r, k => by
    cases k with
    | zero => exact .nil
    | succ k => cases r with | cons a r => exact .cons a (r.take k)
theorem VRs.set : ∀ {vs : List V} {ys : List Value}, VRs G ρ mu h vs ys → ∀ (k : Nat) {v : V} {y : Value}, VR G ρ mu h v y → VRs G ρ mu h (vs.set k v) (ys.set k y)
  | [], _, r, k, _, _, _ => by cases r; exact .nil
  | v :: vs, _, r, k, _, _, z => by
    cases r with
    | cons a r =>
      cases k with
      | zero => exact .cons z r
      | succ k => exact .cons a (r.set k z)
theorem VRs.flatten {vs : List V} {ys : List Value} (r : VRs G ρ mu h vs ys) : ∀ (n : Nat), VRs G ρ mu h (List.replicate n vs).flatten (List.replicate n ys).flatten
  | 0 => .nil
  | n + 1 => by simpa [List.replicate_succ] using r.append (r.flatten n)
end

noncomputable def muts (ρ : Pl) (σ : H) (a : Addr) : Prop := ∃ (i : Nat) (o : O) (p : Addr × Addr), σ[i]? = some o ∧ o ≠ .dead ∧ ρ[i]? = some p ∧ (a = p.1 ∨ a = p.2)

noncomputable def NsB (h : Heap) (d : Addr) (m : Str → Option Value) (k : Nat) : Prop := ∃ o es ep, h.get? d = some o ∧ o.data = .dict es ep ∧ StrKeys es ∧ (∀ name, nsFind es name = m name) ∧ es.size ≤ k
theorem NsB.ns {h : Heap} {d : Addr} {m : Str → Option Value} {k : Nat} (x : NsB h d m k) : h.Ns d m := let ⟨o, es, ep, a, b, c, d, _⟩ := x; ⟨o, es, ep, a, b, c, d⟩

noncomputable def OR (G : Cfg) (ρ : Pl) (mu : Addr → Prop) (h : Heap) (p : Addr × Addr) : O → Prop
  | .list vs => p.2 = p.1 ∧ ∃ o xs n, h.get? p.1 = some o ∧ o.cls = .type "list" ∧ o.data = .seq xs n ∧ VRs G ρ mu h vs xs.toList ∧ vs.length ≤ 2 ^ 20 ∧ o.dict = none
  | .inst c fs => p.1 ≠ p.2 ∧ (∃ o, h.get? p.1 = some o ∧ o.cls = .ref (G.cls c) ∧ o.dict = some p.2 ∧ o.data = .plain) ∧ ∃ m, NsB h p.2 m fs.length ∧
      ∀ n, (getF fs n = none ∧ m (G.nm n) = none) ∨ ∃ v x, getF fs n = some v ∧ m (G.nm n) = some x ∧ VR G ρ mu h v x
  | .dict _ => False
  | .dead => True

structure HR (G : Cfg) (ρ : Pl) (σ : H) (h : Heap) : Prop where
  stays : G.base.StaysIn h
  fbd : ∀ a, G.fb a → ∃ o, h.get? a = some o
  len : ρ.length = σ.length
  objs : ∀ (i : Nat) (o : O) (p : Addr × Addr), σ[i]? = some o → ρ[i]? = some p → OR G ρ (muts ρ σ) h p o
  new : ∀ a, muts ρ σ a → G.base.get? a = none
  apart : ∀ (i j : Nat) (o o' : O) (p q : Addr × Addr), σ[i]? = some o → σ[j]? = some o' → o ≠ .dead → o' ≠ .dead → ρ[i]? = some p → ρ[j]? = some q → i ≠ j → p.1 ≠ q.1 ∧ p.1 ≠ q.2 ∧ p.2 ≠ q.1 ∧ p.2 ≠ q.2
  fbn : ∀ a, G.fb a → ¬ muts ρ σ a

end Mine.Internal
namespace Mine.Internal
open PySem PyProof.Rows

structure ERg (N : Array Value → Prop) (G : Cfg) (h₀ : Heap) (mu : Addr → Prop) (h : Heap) (c : Nat) (e : Addr) : Prop where
  new : h₀.get? e = none
  nmu : ¬ mu e
  nb : G.base.get? e = none
  obj : ∃ oe vs, h.get? e = some oe ∧ oe.cls = .ref (G.cls c) ∧ oe.data = .fields vs ∧ (G.flat c = true → vs[2]? = some .none) ∧ (vs[1]? = some .none ∨ ∃ T oT ts, vs[1]? = some (.ref T) ∧ T ≠ e ∧ h₀.get? T = none ∧ ¬ mu T ∧ G.base.get? T = none ∧ h.get? T = some oT ∧ oT.cls = .type "traceback" ∧ oT.data = .fields ts ∧ N ts)
abbrev ER := ERg fun ts => 3 < ts.size
abbrev ERN := ERg fun ts => ts[3]? = some .none
theorem ERg.imp {N N' : Array Value → Prop} {G : Cfg} {h₀ : Heap} {mu : Addr → Prop} {h : Heap} {c : Nat} {e : Addr} (k : ∀ ts, N ts → N' ts) (x : ERg N G h₀ mu h c e) : ERg N' G h₀ mu h c e := by
  obtain ⟨oe, vs, a, b, d, fl, r⟩ := x.obj
  exact ⟨x.new, x.nmu, x.nb, oe, vs, a, b, d, fl, r.imp id fun ⟨T, oT, ts, q1, q2, q3, q4, q5, q6, q7, q8, q9⟩ => ⟨T, oT, ts, q1, q2, q3, q4, q5, q6, q7, q8, k ts q9⟩⟩
theorem ERg.weak {G : Cfg} {h₀ : Heap} {mu : Addr → Prop} {h : Heap} {c : Nat} {e : Addr} (x : ERN G h₀ mu h c e) : ER G h₀ mu h c e := x.imp fun ts q => (Array.getElem?_eq_some_iff.mp q).1

theorem none_of_dom {h h' : Heap} (d : ∀ a o, h.get? a = some o → ∃ o', h'.get? a = some o') {a : Addr} (e : h'.get? a = none) : h.get? a = none := by
  cases q : h.get? a with
  | none => rfl
  | some o => obtain ⟨o', e'⟩ := d a o q; rw [e] at e'; cases e'

theorem ERg.le {N : Array Value → Prop} {G : Cfg} {h₀ h₁ : Heap} {mu : Addr → Prop} {h : Heap} {c : Nat} {e : Addr} (x : ERg N G h₁ mu h c e) (l : ∀ a o, h₀.get? a = some o → ∃ o', h₁.get? a = some o') : ERg N G h₀ mu h c e := by
  obtain ⟨oe, vs, a, b, d, fl, r⟩ := x.obj
  exact ⟨none_of_dom l x.new, x.nmu, x.nb, oe, vs, a, b, d, fl, r.imp id fun ⟨T, oT, ts, q1, q2, q3, q⟩ => ⟨T, oT, ts, q1, q2, none_of_dom l q3, q⟩⟩

structure Out (G : Cfg) (ρ : Pl) (σ : H) (s : Shared) (ρ' : Pl) (σ' : H) (s' : Shared) : Prop where
  hr : HR G ρ' σ' s'.heap
  ext : Ext ρ (muts ρ σ) s.heap ρ' (muts ρ' σ') s'.heap
  gens : s'.gens = s.gens
  os : s'.os = s.os

theorem Out.refl {G : Cfg} {ρ : Pl} {σ : H} {s : Shared} (hr : HR G ρ σ s.heap) : Out G ρ σ s ρ σ s := ⟨hr, Ext.refl .., rfl, rfl⟩
theorem Out.trans {G : Cfg} {ρ ρ' ρ'' : Pl} {σ σ' σ'' : H} {s s' s'' : Shared} (x : Out G ρ σ s ρ' σ' s') (y : Out G ρ' σ' s' ρ'' σ'' s'') : Out G ρ σ s ρ'' σ'' s'' :=
  ⟨y.hr, x.ext.trans y.ext, y.gens.trans x.gens, y.os.trans x.os⟩

noncomputable def Req {α β : Type} (G : Cfg) (ρ : Pl) (σ : H) (s : Shared) (r : Res α) (rel : Pl → (Addr → Prop) → Heap → α → β → Prop) (Q : β → Shared → Prop) (E : Value → Shared → Prop) : Prop :=
  match r with
  | .ok v σ' => ∀ x ρ' s', Out G ρ σ s ρ' σ' s' → rel ρ' (muts ρ' σ') s'.heap v x → Q x s'
  | .exc c σ' => ∀ e ρ' s', Out G ρ σ s ρ' σ' s' → ER G s.heap (muts ρ' σ') s'.heap c e → E (.ref e) s'
  | .stuck => False

section
variable {α β γ δ : Type} {G : Cfg} {ρ ρ' : Pl} {σ σ' : H} {s s' : Shared} {rel : Pl → (Addr → Prop) → Heap → α → β → Prop} {rel' : Pl → (Addr → Prop) → Heap → γ → δ → Prop} {Q : β → Shared → Prop} {Q' : δ → Shared → Prop} {E : Value → Shared → Prop}

theorem Req.step {r : Res α} (o : Out G ρ σ s ρ' σ' s') (h : Req G ρ σ s r rel Q E) : Req G ρ' σ' s' r rel Q E := by
  cases r with
  | ok v σ₁ => exact fun x ρ₁ s₁ o₁ k => h x ρ₁ s₁ (o.trans o₁) k
  | exc c σ₁ => exact fun e ρ₁ s₁ o₁ k => h e ρ₁ s₁ (o.trans o₁) (k.le o.ext.dom)
  | stuck => exact h

theorem Req.bind {r : Res γ} {f : γ → H → Res α} (h : Req G ρ σ s (r.bind f) rel Q E)
    (k : ∀ v σ' x ρ' s', Out G ρ σ s ρ' σ' s' → rel' ρ' (muts ρ' σ') s'.heap v x → Req G ρ' σ' s' (f v σ') rel Q E → Q' x s') : Req G ρ σ s r rel' Q' E := by
  cases r with
  | ok v σ₁ => exact fun x ρ₁ s₁ o q => k v σ₁ x ρ₁ s₁ o q (Req.step (r := f v σ₁) o h)
  | exc c σ₁ => exact h
  | stuck => exact h

theorem Req.here {v : α} {x : β} (h : Req G ρ σ s (.ok v σ) rel Q E) (hr : HR G ρ σ s.heap) (hv : rel ρ (muts ρ σ) s.heap v x) (tk : Nat) : Q x { s with toks := tk } :=
  h x ρ { s with toks := tk } ⟨hr, Ext.refl .., rfl, rfl⟩ hv
variable {mu : Addr → Prop} {hp : Heap} {x y : Value} {a b : V}
theorem int1_vr {k : Int → Res α} (M : Value → Prop) (ra : VR G ρ mu hp a x) (req : Req G ρ σ s (int1 a k) rel Q E) (f : ∀ i t, Req G ρ σ s (k i) rel Q E → M (.int i t)) : M x := by
  cases ra <;> first | exact f _ _ req | exact req.elim
theorem bool1_vr {k : Bool → Res α} (M : Value → Prop) (ra : VR G ρ mu hp a x) (req : Req G ρ σ s (bool1 a k) rel Q E) (f : ∀ b, Req G ρ σ s (k b) rel Q E → M (.bool b)) : M x := by
  cases ra <;> first | exact f _ req | exact req.elim
theorem str1_vr {k : Str → Res α} (M : Value → Prop) (ra : VR G ρ mu hp a x) (req : Req G ρ σ s (str1 a k) rel Q E) (f : ∀ i t, PyData.strOk i = true → Req G ρ σ s (k i) rel Q E → M (.str i t)) : M x := by
  cases ra <;> first | exact f _ _ (by assumption) req | exact req.elim
theorem int2_vr {k : Int → Int → Res α} (M : Value → Value → Prop) (ra : VR G ρ mu hp a x) (rb : VR G ρ mu hp b y) (req : Req G ρ σ s (int2 a b k) rel Q E) (f : ∀ i t j u, Req G ρ σ s (k i j) rel Q E → M (.int i t) (.int j u)) : M x y :=
  int1_vr (fun x => M x y) ra req fun i t req => int1_vr (M (.int i t)) rb req fun j u req => f i t j u req
theorem some1_of {o : Option γ} {k : γ → Res α} (req : Req G ρ σ s (some1 o k) rel Q E) : ∃ z, o = some z ∧ Req G ρ σ s (k z) rel Q E := by
  cases o with
  | none => exact req.elim
  | some z => exact ⟨z, rfl, req⟩
theorem when1_of {c : Bool} {r : Res α} (req : Req G ρ σ s (when1 c r) rel Q E) : c = true ∧ Req G ρ σ s r rel Q E := by
  cases c with
  | true => exact ⟨rfl, req⟩
  | false => exact req.elim
theorem inst1_vr {k : Nat → Nat → List (Nat × V) → Res α} (M : Value → Prop) (ra : VR G ρ mu hp a x) (req : Req G ρ σ s (inst1 a σ k) rel Q E) (f : ∀ i p c fs, σ[i]? = some (.inst c fs) → ρ[i]? = some p → Req G ρ σ s (k i c fs) rel Q E → M (.ref p.1)) : M x := by
  cases ra <;> first | exact req.elim | skip
  rename_i i p hp
  obtain ⟨o, e, req⟩ := some1_of req
  cases o <;> first | exact f i p _ _ e hp req | exact req.elim
theorem list1_vr {k : Nat → List V → Res α} (M : Value → Prop) (ra : VR G ρ mu hp a x) (req : Req G ρ σ s (list1 a σ k) rel Q E) (f : ∀ i p vs, σ[i]? = some (.list vs) → ρ[i]? = some p → Req G ρ σ s (k i vs) rel Q E → M (.ref p.1)) : M x := by
  cases ra <;> first | exact req.elim | skip
  rename_i i p hp
  obtain ⟨o, e, req⟩ := some1_of req
  cases o <;> first | exact f i p _ e hp req | exact req.elim
theorem arg1_vr {as : List V} {xs : List Value} {k : V → Res α} (M : List Value → Prop) (ra : VRs G ρ mu hp as xs) (req : Req G ρ σ s (arg1 as k) rel Q E) (f : ∀ a x, VR G ρ mu hp a x → Req G ρ σ s (k a) rel Q E → M [x]) : M xs := by
  cases ra with
  | nil => exact req.elim
  | cons a b =>
    cases b with
    | nil => exact f _ _ a req
    | cons => exact req.elim
theorem arg2_vr {as : List V} {xs : List Value} {k : V → V → Res α} (M : List Value → Prop) (ra : VRs G ρ mu hp as xs) (req : Req G ρ σ s (arg2 as k) rel Q E) (f : ∀ a x b y, VR G ρ mu hp a x → VR G ρ mu hp b y → Req G ρ σ s (k a b) rel Q E → M [x, y]) : M xs := by
  cases ra with
  | nil => exact req.elim
  | cons a b =>
    cases b with
    | nil => exact req.elim
    | cons b c =>
      cases c with
      | nil => exact f _ _ _ _ a b req
      | cons => exact req.elim
end

theorem get?_pushed {h : Heap} {o : Obj} {a : Addr} {o' : Obj} (e : (h.push o).get? a = some o') : a = h.objs.size ∨ h.get? a = some o' := by
  by_cases q : a = h.objs.size
  · exact .inl q
  · refine .inr ?_
    obtain ⟨e1, e2⟩ := Heap.get?_some_iff.mp e
    refine Heap.get?_some_iff.mpr ⟨?_, e2⟩
    cases h; simpa [Heap.push, Array.getElem?_push, q] using e1

theorem muts_lt {G : Cfg} {ρ : Pl} {σ : H} {h : Heap} (hr : HR G ρ σ h) {a : Addr} (m : muts ρ σ a) : ∃ o, h.get? a = some o := by
  obtain ⟨i, o, p, h1, h2, h3, h4⟩ := m
  have := hr.objs i o p h1 h3
  cases o with
  | list vs =>
    obtain ⟨e, o, xs, n, ho, _⟩ := this
    rcases h4 with rfl | rfl
    · exact ⟨_, ho⟩
    · exact ⟨_, e ▸ ho⟩
  | inst c fs =>
    obtain ⟨_, ⟨o, ho, _⟩, m, ⟨o', es, ep, ho', _⟩, _⟩ := this
    rcases h4 with rfl | rfl
    · exact ⟨_, ho⟩
    · exact ⟨_, ho'⟩
  | dict es => exact this.elim
  | dead => exact (h2 rfl).elim

theorem OR.ext {G : Cfg} {ρ ρ' : Pl} {mu mu' : Addr → Prop} {h h' : Heap} {p : Addr × Addr} {o : O} (x : Ext ρ mu h ρ' mu' h') (k1 : ∀ ob, h.get? p.1 = some ob → h'.get? p.1 = some ob) (k2 : ∀ ob, h.get? p.2 = some ob → h'.get? p.2 = some ob)
    (r : OR G ρ mu h p o) : OR G ρ' mu' h' p o := by
  cases o with
  | list vs =>
    obtain ⟨e, o, xs, n, ho, hc, hd, hv, hz⟩ := r
    exact ⟨e, o, xs, n, k1 _ ho, hc, hd, hv.ext x, hz⟩
  | inst c fs =>
    obtain ⟨hne, ⟨o, ho, hc⟩, m, ⟨o', es, ep, ho', hm⟩, hf⟩ := r
    exact ⟨hne, ⟨o, k1 _ ho, hc⟩, m, ⟨o', es, ep, k2 _ ho', hm⟩, fun n => (hf n).imp id fun ⟨v, y, a, b, c⟩ => ⟨v, y, a, b, c.ext x⟩⟩
  | dict es => exact r
  | dead => trivial

theorem HR.keeps {G : Cfg} {ρ : Pl} {σ : H} {h h' : Heap} (hr : HR G ρ σ h) (k : ∀ b o, h.get? b = some o → h'.get? b = some o) : HR G ρ σ h' :=
  ⟨fun b o e => k b o (hr.stays b o e), fun a q => let ⟨o, e⟩ := hr.fbd a q; ⟨o, k a o e⟩, hr.len, fun i o p a b => OR.ext (Ext.of_keeps k) (fun _ => k _ _) (fun _ => k _ _) (hr.objs i o p a b), hr.new, hr.apart, hr.fbn⟩

theorem Out.keeps {G : Cfg} {ρ : Pl} {σ : H} {s : Shared} {h' : Heap} {tk : Nat} (hr : HR G ρ σ s.heap) (k : ∀ b o, s.heap.get? b = some o → h'.get? b = some o) :
    Out G ρ σ s ρ σ { s with heap := h', toks := tk } := ⟨hr.keeps k, Ext.of_keeps k, rfl, rfl⟩

theorem Out.push {G : Cfg} {ρ : Pl} {σ : H} {s : Shared} {o : Obj} {tk : Nat} (hr : HR G ρ σ s.heap) : Out G ρ σ s ρ σ { s with heap := s.heap.push o, toks := tk } :=
  Out.keeps hr (fun _ _ e => Heap.get?_push_of_some _ e)

theorem size_none (h : Heap) : h.get? h.objs.size = none := by
  cases q : h.get? h.objs.size with
  | none => rfl
  | some o => exact absurd (Heap.lt_size q) (Nat.lt_irrefl _)

theorem not_muts {G : Cfg} {ρ : Pl} {σ : H} {h : Heap} (hr : HR G ρ σ h) {a : Addr} (e : h.get? a = none) : ¬ muts ρ σ a := fun m => by
  obtain ⟨o, ho⟩ := muts_lt hr m
  rw [e] at ho; cases ho

theorem not_ok {G : Cfg} {ρ : Pl} {σ : H} {h : Heap} (hr : HR G ρ σ h) {a : Addr} (e : h.get? a = none) : ¬ (muts ρ σ a ∨ G.fb a) := fun m => m.elim (not_muts hr e) fun q => by
  obtain ⟨o, ho⟩ := hr.fbd a q
  rw [e] at ho; cases ho

theorem not_base {G : Cfg} {ρ : Pl} {σ : H} {h : Heap} (hr : HR G ρ σ h) {a : Addr} (ha : h.get? a = none) : G.base.get? a = none := by
  cases q : G.base.get? a with
  | none => rfl
  | some o => rw [hr.stays a o q] at ha; cases ha

theorem HR.alloc {G : Cfg} {ρ : Pl} {σ : H} {h h' : Heap} {a d : Addr} {o : O} (hr : HR G ρ σ h) (k : ∀ b ob, h.get? b = some ob → h'.get? b = some ob)
    (ha : h.get? a = none) (hd : h.get? d = none) (ho : ∀ mu, (∀ b ob, h.get? b = some ob → mu b → muts ρ σ b) → OR G (ρ ++ [(a, d)]) mu h' (a, d) o) :
    HR G (ρ ++ [(a, d)]) (σ ++ [o]) h' ∧ Ext ρ (muts ρ σ) h (ρ ++ [(a, d)]) (muts (ρ ++ [(a, d)]) (σ ++ [o])) h' := by
  have hm : ∀ b, muts (ρ ++ [(a, d)]) (σ ++ [o]) b → muts ρ σ b ∨ b = a ∨ b = d := by
    rintro b ⟨i, o', p, h1, h2, h3, h4⟩
    rcases Nat.lt_or_ge i σ.length with hi | hi
    · rw [List.getElem?_append_left hi] at h1
      rw [List.getElem?_append_left (hr.len ▸ hi)] at h3
      exact .inl ⟨i, o', p, h1, h2, h3, h4⟩
    · have hi' : i = σ.length := by
        have := (List.getElem?_eq_some_iff.mp h1).1
        simp at this; lia
      subst hi'
      rw [← hr.len] at h3
      simp at h3
      subst h3
      exact .inr h4
  have hpl : ∀ (i : Nat) (p : Addr × Addr), ρ[i]? = some p → (ρ ++ [(a, d)])[i]? = some p := fun i p e => by
    rw [List.getElem?_append_left (List.getElem?_eq_some_iff.mp e).1]; exact e
  have ne : ∀ {b c : Addr} {ob : Obj}, h.get? b = some ob → h.get? c = none → b ≠ c := fun e1 e2 q => by rw [q, e2] at e1; cases e1
  have hx : Ext ρ (muts ρ σ) h (ρ ++ [(a, d)]) (muts (ρ ++ [(a, d)]) (σ ++ [o])) h' := ⟨hpl, fun b ob e => ⟨ob, k _ _ e⟩, fun b ob n e => ⟨fun m => by
    rcases hm b m with m | q | q
    · exact n m
    · exact ne e ha q
    · exact ne e hd q, fun _ => k _ _ e, ob.slots, k _ _ e⟩⟩
  have old : ∀ {i : Nat} {o' : O} {p : Addr × Addr}, (σ ++ [o])[i]? = some o' → (ρ ++ [(a, d)])[i]? = some p → (σ[i]? = some o' ∧ ρ[i]? = some p) ∨ (i = σ.length ∧ o' = o ∧ p = (a, d)) := by
    intro i o' p h1 h3
    rcases Nat.lt_or_ge i σ.length with hi | hi
    · rw [List.getElem?_append_left hi] at h1
      rw [List.getElem?_append_left (hr.len ▸ hi)] at h3
      exact .inl ⟨h1, h3⟩
    · have hi' : i = σ.length := by
        have := (List.getElem?_eq_some_iff.mp h1).1
        simp at this; lia
      subst hi'
      rw [← hr.len] at h3
      simp at h1 h3
      exact .inr ⟨rfl, h1.symm, h3.symm⟩
  have big : ∀ {i : Nat} {o' : O} {p : Addr × Addr}, σ[i]? = some o' → o' ≠ .dead → ρ[i]? = some p → (p.1 ≠ a ∧ p.1 ≠ d) ∧ p.2 ≠ a ∧ p.2 ≠ d := by
    intro i o' p h1 h2 h3
    obtain ⟨x, hx⟩ := muts_lt hr ⟨i, o', p, h1, h2, h3, .inl rfl⟩
    obtain ⟨y, hy⟩ := muts_lt hr ⟨i, o', p, h1, h2, h3, .inr rfl⟩
    exact ⟨⟨ne hx ha, ne hx hd⟩, ne hy ha, ne hy hd⟩
  refine ⟨⟨fun b ob e => k _ _ (hr.stays b ob e), fun a q => let ⟨o, e⟩ := hr.fbd a q; ⟨o, k a o e⟩, by simp [hr.len], fun i o' p h1 h3 => ?_, fun b m => ?_, fun i j oi oj p q hi hj ni nj hp hq hne => ?_, fun b f m => ?_⟩, hx⟩
  · rcases old h1 h3 with ⟨h1, h3⟩ | ⟨_, rfl, rfl⟩
    · exact OR.ext hx (fun _ => k _ _) (fun _ => k _ _) (hr.objs i o' p h1 h3)
    · refine ho _ fun b ob hb m => ?_
      rcases hm b m with m | q | q
      · exact m
      · exact absurd q (ne hb ha)
      · exact absurd q (ne hb hd)
  · rcases hm b m with m | rfl | rfl
    · exact hr.new b m
    · exact not_base hr ha
    · exact not_base hr hd
  · rcases old hi hp with ⟨hi', hp'⟩ | ⟨e1, _, ep⟩ <;> rcases old hj hq with ⟨hj', hq'⟩ | ⟨e2, _, eq⟩
    · exact hr.apart i j oi oj p q hi' hj' ni nj hp' hq' hne
    · have := big hi' ni hp'
      rw [eq]
      exact ⟨this.1.1, this.1.2, this.2.1, this.2.2⟩
    · have := big hj' nj hq'
      rw [ep]
      exact ⟨this.1.1.symm, this.2.1.symm, this.1.2.symm, this.2.2.symm⟩
    · exact absurd (e1.trans e2.symm) hne
  · obtain ⟨ob, eb⟩ := hr.fbd b f
    rcases hm b m with m | q | q
    · exact hr.fbn b f m
    · exact ne eb ha q
    · exact ne eb hd q

theorem newList_len {G : Cfg} {ρ : Pl} {σ : H} {s : Shared} {vs : List V} {m : Bool} {Q : Value → Shared → Prop} {E : Value → Shared → Prop} (req : Req G ρ σ s (newList m vs σ) (VR G) Q E) : vs.length ≤ 2 ^ 20 :=
  Decidable.byContradiction fun z => by unfold newList at req; rw [if_neg z] at req; exact req
theorem newList_sound {G : Cfg} {ρ : Pl} {σ : H} {s : Shared} {vs : List V} {xs : Array Value} {n tk : Nat} {m : Bool} {Q : Value → Shared → Prop} {E : Value → Shared → Prop} {h' : Heap} {a : Addr} {o : Obj}
    (hr : HR G ρ σ s.heap) (req : Req G ρ σ s (newList m vs σ) (VR G) Q E) (k : ∀ b ob, s.heap.get? b = some ob → h'.get? b = some ob) (ha : s.heap.get? a = none)
    (ho : h'.get? a = some o) (hc : o.cls = .type "list") (hd : o.data = .seq xs n) (hdd : o.dict = none) (hv : VRs G ρ (muts ρ σ) s.heap vs xs.toList) : Q (.ref a) { s with heap := h', toks := tk } := by
  unfold newList at req
  split at req
  · rename_i hz
    cases m with
    | false =>
      exact req _ ρ { s with heap := h', toks := tk } (Out.keeps hr k) (.lst ho (not_ok hr ha) hc hd (hv.ext (Ext.of_keeps k)) hz)
    | true =>
      have X := HR.alloc (o := .list vs) hr k ha ha fun mu hmu => ⟨rfl, o, xs, n, ho, hc, hd, hv.ext ⟨fun i p e => by rw [List.getElem?_append_left (List.getElem?_eq_some_iff.mp e).1]; exact e, fun b ob e => ⟨ob, k _ _ e⟩,
        fun b ob nb e => ⟨fun q => nb (hmu b ob e q), fun _ => k _ _ e, ob.slots, k _ _ e⟩⟩, hz, hdd⟩
      refine req _ (ρ ++ [(a, a)]) { s with heap := h', toks := tk } ⟨X.1, X.2, rfl, rfl⟩ ?_
      have := VR.ref (G := G) (ρ := ρ ++ [(a, a)]) (mu := muts (ρ ++ [(a, a)]) (σ ++ [.list vs])) (h := h') (i := σ.length) (p := (a, a)) (by rw [← hr.len]; simp)
      exact this
  · exact req.elim

end Mine.Internal
namespace Mine.Internal
open PySem PyProof.Rows

noncomputable def opOf : Bop → Operator
  | .add => .Add | .sub => .Sub | .mul => .Mult | .fdiv => .FloorDiv | .mod => .Mod | .pow => .Pow
noncomputable def cmpOf : Cop → CmpOp
  | .eq => .Eq | .ne => .NotEq | .lt => .Lt | .le => .LtE | .gt => .Gt | .ge => .GtE | .is => .Is | .isNot => .IsNot

theorem small_bits {x : Int} (h : small x = true) : Builtin.Int.intBits x ≤ 64 := by
  have := of_decide_eq_true h
  exact intBits_le_64 (by first | decide | lia) (by first | decide | lia)

theorem asList_sound {G : Cfg} {ρ : Pl} {σ : H} {h : Heap} {v : V} {x : Value} {vs : List V} (hr : HR G ρ σ h) (r : VR G ρ (muts ρ σ) h v x) (e : asList σ v = some vs) :
    ∃ a xs n o, x = .ref a ∧ h.get? a = some o ∧ o.cls = .type "list" ∧ o.data = .seq xs n ∧ VRs G ρ (muts ρ σ) h vs xs.toList ∧ vs.length ≤ 2 ^ 20 := by
  cases r <;> simp only [asList] at e <;> try (cases e; done)
  · rename_i a o vs' xs n ho _ hc hd hv hz
    cases e
    exact ⟨_, _, _, _, rfl, ho, hc, hd, hv, hz⟩
  · rename_i i p hp
    split at e
    · rename_i vs' hi
      cases e
      obtain ⟨_, o, xs, n, ho, hc, hd, hv, hz, _⟩ := hr.objs i _ p hi hp
      exact ⟨_, _, _, _, rfl, ho, hc, hd, hv, hz⟩
    · cases e

theorem asList_isList {G : Cfg} {ρ : Pl} {σ : H} {h : Heap} {v : V} {x : Value} {vs : List V} (hr : HR G ρ σ h) (r : VR G ρ (muts ρ σ) h v x) (e : asList σ v = some vs) :
    ∃ a xs, x = .ref a ∧ h.IsList a xs ∧ VRs G ρ (muts ρ σ) h vs xs.toList ∧ vs.length ≤ 2 ^ 20 := by
  obtain ⟨a, xs, n, o, e1, e2, e3, e4, e5⟩ := asList_sound hr r e
  exact ⟨a, xs, e1, ⟨o, e2, e3, n, e4⟩, e5⟩

section
variable {prog : Program} {w : World} {A : Around} {E : Value → Shared → Prop} {s : Shared} {G : Cfg} {ρ : Pl} {σ : H} {Q : Value → Shared → Prop}

theorem add_lists' {l b : Addr} {xs ys : Array Value} (hl : s.heap.IsList l xs) (hb : s.heap.IsList b ys)
    (h : Q (.ref s.heap.objs.size) { s with heap := s.heap.push { cls := .type "list", data := .seq (xs ++ ys) } }) (hsz : xs.size + ys.size ≤ sizeLine) :
    wpAny (model prog w) A (binaryOp .Add (.ref l) (.ref b)) Q E s := by
  obtain ⟨⟨c1, d1, t1, s1⟩, ho, hc, n, hd⟩ := hl
  obtain ⟨⟨c2, d2, t2, s2⟩, ho2, hc2, n2, hd2⟩ := hb
  simp only at hc hd hc2 hd2
  subst hc hd hc2 hd2
  refine concat_meets ⟨_, ho, rfl⟩ ⟨_, ho2, rfl⟩ noFill_list_add seq_list_add PySem.F.slot_list_add PySem.F.entry_list_add (PySem.F.args_list_add_2 _ _) (list_addW l b xs ys n n2 d1 d2 s1 s2 hsz) ⟨ho, ho2, ?_⟩
  exact h

theorem add_seqs {m : Bool} {a b : V} {x y : Value} (hr : HR G ρ σ s.heap) (ra : VR G ρ (muts ρ σ) s.heap a x) (rb : VR G ρ (muts ρ σ) s.heap b y)
    (req : Req G ρ σ s (some1 (asList σ a) fun xs => some1 (asList σ b) fun ys => newList m (xs ++ ys) σ) (VR G) Q E) : wpAny (model prog w) A (binaryOp .Add x y) Q E s := by
  obtain ⟨xs, e1, req⟩ := some1_of req
  obtain ⟨ys, e2, req⟩ := some1_of req
  obtain ⟨a', xs', rfl, hl, hv, _⟩ := asList_isList hr ra e1
  obtain ⟨b', ys', rfl, hl', hv', _⟩ := asList_isList hr rb e2
  refine add_lists' hl hl' ?_ ?_
  · exact newList_sound (tk := s.toks) hr req (fun _ _ e => Heap.get?_push_of_some _ e) (size_none _) (Heap.get?_push_size _ rfl) rfl rfl rfl (by rw [Array.toList_append]; exact hv.append hv')
  · rw [← Array.length_toList, ← Array.length_toList, ← hv.length, ← hv'.length, ← List.length_append]
    exact Nat.le_trans (newList_len req) (by decide)
theorem binop_sound {m : Bool} {op : Bop} {a b : V} {x y : Value} (hr : HR G ρ σ s.heap) (ra : VR G ρ (muts ρ σ) s.heap a x) (rb : VR G ρ (muts ρ σ) s.heap b y)
    (req : Req G ρ σ s (binop m op a b σ) (VR G) Q E) : wpAny (model prog w) A (binaryOp (opOf op) x y) Q E s := by
  cases op with
  | add =>
    have ra' := ra
    cases ra with
    | int i t => exact int1_vr (fun y => wpAny (model prog w) A (binaryOp .Add (.int i t) y) Q E s) rb req fun j u req => P.add_int (req.here hr (.int ..) _)
    | str i t ok1 =>
      refine str1_vr (fun y => wpAny (model prog w) A (binaryOp .Add (.str i t) y) Q E s) rb req fun j u ok2 req => ?_
      obtain ⟨q, req⟩ := when1_of req
      refine PyProof.Rows.add_str (fun t' tk => ?_) (Nat.le_trans (of_decide_eq_true q) (by decide))
      refine req _ ρ { s with toks := tk } ⟨hr, Ext.refl .., rfl, rfl⟩ (.str _ _ ?_)
      unfold PyData.strOk at *
      show (_ ++ _ : Array Nat).all _ = true
      rw [Array.all_append, ok1, ok2]; rfl
    | _ => exact add_seqs (m := m) hr ra' rb req
  | sub => exact int2_vr (fun x y => wpAny (model prog w) A (binaryOp .Sub x y) Q E s) ra rb req fun i t j u req => P.sub_int (req.here hr (.int ..) _)
  | mul =>
    refine int2_vr (fun x y => wpAny (model prog w) A (binaryOp .Mult x y) Q E s) ra rb req fun i t j u req => ?_
    obtain ⟨q, req⟩ := when1_of req
    exact mul_int (req.here hr (.int ..) _) ((Bool.or_eq_true_iff.mp q).elim (fun q => .of_left (small_bits q)) fun q => .of_right (small_bits q))
  | fdiv =>
    refine int2_vr (fun x y => wpAny (model prog w) A (binaryOp .FloorDiv x y) Q E s) ra rb req fun i t j u req => ?_
    obtain ⟨q, req⟩ := when1_of req
    have q := of_decide_eq_true q
    exact floordiv_int (by first | decide | lia) (req.here hr (.int ..) _) (.inl (PyProof.noPylong_small (by first | decide | lia)))
  | mod =>
    refine int2_vr (fun x y => wpAny (model prog w) A (binaryOp .Mod x y) Q E s) ra rb req fun i t j u req => ?_
    obtain ⟨q, req⟩ := when1_of req
    exact mod_int' (of_decide_eq_true q) (req.here hr (.int ..) _)
  | pow =>
    refine int2_vr (fun x y => wpAny (model prog w) A (binaryOp .Pow x y) Q E s) ra rb req fun i t j u req => ?_
    obtain ⟨q, req⟩ := when1_of req
    obtain ⟨q1, q2⟩ := Bool.and_eq_true_iff.mp q
    have q2 := of_decide_eq_true q2
    exact pow_int q2.1 (Int.le_trans (Int.mul_le_mul (Int.ofNat_le.mpr (small_bits q1)) q2.2 q2.1 (by decide)) (by decide)) (req.here hr (.int ..) _)
end
end Mine.Internal
namespace Mine.Internal
open PySem PyProof.Rows

section
variable {G : Cfg} {ρ : Pl} {σ : H} {h : Heap}
theorem mapD_sound {d : Nat} (ih : ∀ {v : V} {y : Value} {x : PyData}, VR G ρ (muts ρ σ) h v y → toD σ d v = some x → ∃ as, Reads h y x as ∧ x.canLay0 = true ∧ x.depth ≤ d) :
    ∀ {vs : List V} {ys : List Value} {xs : List PyData}, VRs G ρ (muts ρ σ) h vs ys → vs.mapM (toD σ d) = some xs → ∃ as, ReadsAll h ys xs as ∧ PyData.canLayAll0 xs = true ∧ PyData.depthAll xs ≤ d
  | [], _, _, r, e => by cases r; cases (show some [] = some _ from e); exact ⟨_, .nil, rfl, Nat.zero_le _⟩
  | _ :: _, _, _, r, e => by
    cases r with
    | cons a b =>
      rw [List.mapM_cons] at e
      obtain ⟨x, hx, e⟩ := Option.bind_eq_some_iff.mp e
      obtain ⟨xs, hxs, e⟩ := Option.bind_eq_some_iff.mp e
      cases e
      obtain ⟨as, r1, c1, d1⟩ := ih a hx
      obtain ⟨bs, r2, c2, d2⟩ := mapD_sound ih b hxs
      exact ⟨_, .cons r1 r2, by rw [PyData.canLayAll0, c1, c2]; rfl, by rw [PyData.depthAll]; exact Nat.max_le.mpr ⟨d1, d2⟩⟩

theorem toD_sound (hr : HR G ρ σ h) : ∀ {d : Nat} {v : V} {y : Value} {x : PyData}, VR G ρ (muts ρ σ) h v y → toD σ d v = some x → ∃ as, Reads h y x as ∧ x.canLay0 = true ∧ x.depth ≤ d
  | 0, _, _, _, _, e => by simp [toD] at e
  | d + 1, _, _, _, r, e => by
    cases r with
    | none => cases (show some PyData.none = some _ from e); exact ⟨_, .none, rfl, Nat.zero_le _⟩
    | bool b => cases (show some (PyData.bool b) = some _ from e); exact ⟨_, .bool _, rfl, Nat.zero_le _⟩
    | int i => cases (show some (PyData.int i) = some _ from e); exact ⟨_, .int _ _, rfl, Nat.zero_le _⟩
    | str s t ok => cases (show some (PyData.str s) = some _ from e); exact ⟨_, .str _ _, ok, Nat.zero_le _⟩
    | tup ho _ hc hd hv _ =>
      obtain ⟨xs, hx, rfl⟩ := Option.map_eq_some_iff.mp e
      obtain ⟨as, r1, c1, d1⟩ := mapD_sound (toD_sound hr) hv hx
      exact ⟨_, .tuple ho hc hd r1, c1, Nat.succ_le_succ d1⟩
    | lst ho _ hc hd hv _ =>
      obtain ⟨xs, hx, rfl⟩ := Option.map_eq_some_iff.mp e
      obtain ⟨as, r1, c1, d1⟩ := mapD_sound (toD_sound hr) hv hx
      exact ⟨_, .list ho hc hd r1, c1, Nat.succ_le_succ d1⟩
    | @ref i p hp =>
      cases hi : σ[i]? with
      | none => simp only [toD, hi] at e; cases e
      | some ob =>
        simp only [toD, hi] at e
        cases ob with
        | list vs =>
          obtain ⟨xs, hx, rfl⟩ := Option.map_eq_some_iff.mp e
          obtain ⟨_, o, ys, n, ho, hc, hd, hv, _⟩ := hr.objs i _ p hi hp
          obtain ⟨as, r1, c1, d1⟩ := mapD_sound (toD_sound hr) hv hx
          exact ⟨_, .list ho hc hd r1, c1, Nat.succ_le_succ d1⟩
        | _ => cases e
    | _ => cases e
end

theorem shaped_of {x : PyData} (c : x.canLay0 = true) (p : x.depth ≤ 8) : SeqAt.shaped x = true := Bool.and_eq_true_iff.mpr ⟨c, decide_eq_true (Nat.le_trans p (by decide))⟩
section
variable {prog : Program} {w : World} {A : Around} {E : Value → Shared → Prop} {s : Shared} {G : Cfg} {ρ : Pl} {σ : H} {Q : Value → Shared → Prop}
theorem is_val {a b : V} {x y : Value} {mu : Addr → Prop} {h : Heap} {r : Bool} (ra : VR G ρ mu h a x) (rb : VR G ρ mu h b y) (e : isv a b = some r) : plainIs x y = true ∧ (x == y) = r := by
  cases rb <;> first | cases e | skip
  · cases ra <;> exact ⟨rfl, rfl⟩
  · cases ra <;> first | exact ⟨rfl, rfl⟩ | skip
    rename_i b a
    exact ⟨rfl, by cases a <;> cases b <;> rfl⟩
theorem eq_two {a b : V} {x y : Value} {k : PyData → PyData → Res V} (hr : HR G ρ σ s.heap) (ra : VR G ρ (muts ρ σ) s.heap a x) (rb : VR G ρ (muts ρ σ) s.heap b y) (req : Req G ρ σ s (some1 (toD σ 8 a) fun x => some1 (toD σ 8 b) fun y => k x y) (VR G) Q E) :
    ∃ d1 d2 as bs, Reads s.heap x d1 as ∧ Reads s.heap y d2 bs ∧ SeqAt.shaped d1 = true ∧ SeqAt.shaped d2 = true ∧ Req G ρ σ s (k d1 d2) (VR G) Q E := by
  obtain ⟨d1, e1, req⟩ := some1_of req
  obtain ⟨d2, e2, req⟩ := some1_of req
  obtain ⟨as, r1, c1, p1⟩ := toD_sound hr ra e1
  obtain ⟨bs, r2, c2, p2⟩ := toD_sound hr rb e2
  exact ⟨d1, d2, as, bs, r1, r2, shaped_of c1 p1, shaped_of c2 p2, req⟩
theorem cmpop_sound {op : Cop} {a b : V} {x y : Value} (hu : A.units + 64 < cLine) (hr : HR G ρ σ s.heap) (ra : VR G ρ (muts ρ σ) s.heap a x) (rb : VR G ρ (muts ρ σ) s.heap b y)
    (req : Req G ρ σ s (cmpop op a b σ) (VR G) Q E) : wpAny (model prog w) A (compareOp (cmpOf op) x y) Q E s := by
  cases op with
  | eq =>
    obtain ⟨d1, d2, as, bs, r1, r2, c1, c2, req⟩ := eq_two hr ra rb req
    exact SeqAt.compareEq_shaped r1 r2 c1 c2 hu (req.here hr (.bool _) _)
  | ne =>
    obtain ⟨d1, d2, as, bs, r1, r2, c1, c2, req⟩ := eq_two hr ra rb req
    exact SeqAt.compareNe_shaped r1 r2 c1 c2 hu (req.here hr (.bool _) _)
  | lt => exact int2_vr (fun x y => wpAny (model prog w) A (compareOp .Lt x y) Q E s) ra rb req fun i t j u req => P.lt_int (req.here hr (.bool _) _)
  | le => exact int2_vr (fun x y => wpAny (model prog w) A (compareOp .LtE x y) Q E s) ra rb req fun i t j u req => P.le_int (req.here hr (.bool _) _)
  | gt => exact int2_vr (fun x y => wpAny (model prog w) A (compareOp .Gt x y) Q E s) ra rb req fun i t j u req => P.gt_int (req.here hr (.bool _) _)
  | ge => exact int2_vr (fun x y => wpAny (model prog w) A (compareOp .GtE x y) Q E s) ra rb req fun i t j u req => P.ge_int (req.here hr (.bool _) _)
  | is =>
    obtain ⟨r, e, req⟩ := some1_of req
    obtain ⟨p, q⟩ := is_val ra rb e
    exact wpAny_is_plain p (q ▸ req.here hr (.bool _) s.toks)
  | isNot =>
    obtain ⟨r, e, req⟩ := some1_of req
    obtain ⟨p, q⟩ := is_val ra rb e
    exact wpAny_isNot_plain p (q ▸ req.here hr (.bool _) s.toks)
end
end Mine.Internal
namespace Mine.Internal
open PySem PyProof.Rows

theorem idx_eq (n : Nat) (i : Int) (k : Nat) (h : idx n i = some k) : seqIndex? i n = some k ∧ (k : Int) = (if 0 ≤ i then i else i + n) ∧ k < n ∧ -(2 ^ 62) < i ∧ i < 2 ^ 62 := by
  unfold idx at h
  unfold seqIndex?
  split at h
  · rename_i hb
    by_cases h0 : 0 ≤ i
    · rw [if_pos h0] at h
      split at h
      · rename_i h1
        cases h
        refine ⟨?_, by rw [if_pos h0]; lia, by lia, hb⟩
        have e : ¬ i < 0 := by lia
        simp [e, h0, h1]
      · cases h
    · rw [if_neg h0] at h
      split at h
      · rename_i h1
        cases h
        refine ⟨?_, by rw [if_neg h0]; lia, by lia, hb⟩
        have e : i < 0 := by lia
        have e2 : i + n < n := by lia
        simp [e, h1, e2]
      · cases h
  · cases h

section
variable {prog : Program} {w : World} {A : Around} {E : Value → Shared → Prop} {s : Shared} {G : Cfg} {ρ : Pl} {σ : H} {Q : Value → Shared → Prop}

theorem list_item {a : Addr} {xs : Array Value} {i : Int} {t : Tok} {k : Nat} {x : Value} (hl : s.heap.IsList a xs) (hk : idx xs.size i = some k) (hx : xs[k]? = some x) (h : Q x s) :
    wpAny (model prog w) A (getItem (.ref a) (.int i t)) Q E s := by
  obtain ⟨_, h2, h3, h4, h5⟩ := idx_eq _ _ _ hk
  by_cases h0 : 0 ≤ i
  · rw [if_pos h0] at h2
    exact wpAny_getItem_list hl h0 (Int.lt_trans h5 (by decide)) (by rw [← h2]; exact hx) h
  · rw [if_neg h0] at h2
    exact wpAny_getItem_list_neg hl (Int.not_le.mp h0) (by clear hl hk hx h h4 h5 h3; lia) (Int.le_trans (by decide) (Int.le_of_lt h4)) (by rw [← h2]; exact hx) h
theorem seq_item {vs : List V} {xs : List Value} {i : Int} {mu : Addr → Prop} {h : Heap} {rel : Pl → (Addr → Prop) → Heap → V → Value → Prop} (hv : VRs G ρ mu h vs xs) (req : Req G ρ σ s (some1 (idx vs.length i) fun k => some1 vs[k]? fun v => .ok v σ) rel Q E) :
    ∃ k v z, idx xs.length i = some k ∧ xs[k]? = some z ∧ VR G ρ mu h v z ∧ Req G ρ σ s (.ok v σ) rel Q E := by
  obtain ⟨k, hk, req⟩ := some1_of req
  obtain ⟨v, hv', req⟩ := some1_of req
  rcases hv.get k with ⟨q, _⟩ | ⟨v', z, q1, q2, q3⟩
  · rw [q] at hv'; cases hv'
  · rw [q1] at hv'
    cases hv'
    exact ⟨k, _, z, hv.length ▸ hk, q2, q3, req⟩
theorem sub_seq {value slice : Expr} (hs : ∀ o i, subscripted slice false o i = operate [o, i] (getItem o i)) {a : V} {x : Value} {i : Int} {u : Tok} (hr : HR G ρ σ s.heap) (ra : VR G ρ (muts ρ σ) s.heap a x)
    (req : Req G ρ σ s (some1 (asList σ a) fun vs => some1 (idx vs.length i) fun k => some1 vs[k]? fun v => .ok v σ) (VR G) Q E) : wpAny (model prog w) A (subscriptTail value slice x (.int i u)) Q E s := by
  obtain ⟨vs, hvs, req⟩ := some1_of req
  obtain ⟨a', xs, rfl, hl, hv, _⟩ := asList_isList hr ra hvs
  obtain ⟨k, v, z, q1, q2, q3, req⟩ := seq_item hv req
  exact tail_any hl.typeIs slot_list_getitem.lookup (list_item hl q1 (by rw [← Array.getElem?_toList]; exact q2) (req.here hr q3 s.toks)) (hs _ _)

theorem subop_sound {value slice : Expr} (hs : ∀ o i, subscripted slice false o i = operate [o, i] (getItem o i)) {a b : V} {x y : Value} (hr : HR G ρ σ s.heap) (ra : VR G ρ (muts ρ σ) s.heap a x) (rb : VR G ρ (muts ρ σ) s.heap b y)
    (req : Req G ρ σ s (subop a b σ) (VR G) Q E) : wpAny (model prog w) A (subscriptTail value slice x y) Q E s := by
  refine int1_vr (fun y => wpAny (model prog w) A (subscriptTail value slice x y) Q E s) rb req fun i u req => ?_
  have ra' := ra
  cases ra with
  | str _ t ok =>
    obtain ⟨k, hk, req⟩ := some1_of req
    obtain ⟨c, hc, req⟩ := some1_of req
    obtain ⟨h1, h2, h3, h4, h5⟩ := idx_eq _ _ _ hk
    refine tail_any (typeIs_str s _ _) F.slot_str_getitem.lookup (P.getItem_str ?_ ?_ (req.here hr (.str _ _ ?_) _)) (hs _ _)
    · simp; lia
    · simp only [Str.length, h1, Option.bind_some]; exact hc
    · unfold PyData.strOk at *
      obtain ⟨hk', rfl⟩ := Array.getElem?_eq_some_iff.mp hc
      have := Array.all_eq_true.mp ok k hk'
      simpa using this
  | tup ho hn hc hd hv hz =>
    obtain ⟨k, v, z, q1, q2, q3, req⟩ := seq_item hv req
    obtain ⟨h1, h2, h3, h4, h5⟩ := idx_eq _ _ _ q1
    exact tail_any ⟨_, ho, hc⟩ slot_tuple_getitem.lookup (PyProof.Rows.getItem_tuple ⟨_, ho, hc, _, hd⟩ (by first | decide | lia) (by first | decide | lia) (j := k) h1 (by rw [← Array.getElem?_toList]; exact q2) (req.here hr q3 s.toks)) (hs _ _)
  | _ => exact sub_seq hs hr ra' req

theorem bound_part {lo : V} {xl : Value} {l : Option Int} {h : Heap} (r : VR G ρ (muts ρ σ) h lo xl) (e : bound lo = some l) : IsPart xl l := by
  cases r <;> simp only [bound] at e <;> cases e
  · exact .none
  · exact .int ..

theorem sliceL_eq {vs : List V} {xs : Array Value} {h : Heap} (r : VRs G ρ (muts ρ σ) h vs xs.toList) (l u : Option Int) : VRs G ρ (muts ρ σ) h (sliceL vs l u) (slicePick xs l u none).toList := by
  have e : vs.length = xs.size := by simpa using r.length
  rw [slicePick_plain, ← e]
  exact (r.drop _).take _

theorem sliceop_sound {value : Expr} {pl : Pos} {lo' hi' : Option Expr} {m : Bool} {a lo hi : V} {x xl xu : Value} (hr : HR G ρ σ s.heap) (ra : VR G ρ (muts ρ σ) s.heap a x) (rl : VR G ρ (muts ρ σ) s.heap lo xl) (ru : VR G ρ (muts ρ σ) s.heap hi xu)
    (req : Req G ρ σ s (sliceop m a lo hi σ) (VR G) Q E) :
    wpAny (model prog w) A (newFields "slice" [xl, xu, .none]) (fun i s' => wpAny (model prog w) A (subscriptTail value (.Slice lo' hi' none pl) x i) Q E s') E s := by
  obtain ⟨vs, hvs, req⟩ := some1_of req
  obtain ⟨l, hl, req⟩ := some1_of req
  obtain ⟨u, hu, req⟩ := some1_of req
  obtain ⟨h1, req⟩ := when1_of req
  · obtain ⟨a', xs, rfl, hL, hv, _⟩ := asList_isList hr ra hvs
    refine wpAny_newObj_type ?_
    have hL' : (s.heap.push { cls := .type "slice", data := .fields #[xl, xu, .none] }).IsList a' xs := hL.push _
    refine tail_any (ops := [.ref s.heap.objs.size, .ref a']) (Heap.IsList.typeIs (s := { s with heap := s.heap.push { cls := .type "slice", data := .fields #[xl, xu, .none] } }) hL') slot_list_getitem.lookup
      (wpAny_getItem_list_slice hL' (Heap.IsSliceOf.new ..) (bound_part rl hl) (bound_part ru hu) .none (by simp) ?_ ?_) (by with_unfolding_all rfl)
    · show Q (.ref (s.heap.push _).objs.size) _
      exact newList_sound (s := s) (tk := s.toks) hr req (fun _ _ e => Heap.get?_push_of_some _ (Heap.get?_push_of_some _ e)) (none_of_dom (fun _ o e => ⟨o, Heap.get?_push_of_some _ e⟩) (size_none _)) (Heap.get?_push_size _ rfl) rfl rfl rfl (sliceL_eq hv l u)
    · rw [← Array.length_toList, ← hv.length]
      exact Nat.le_trans (of_decide_eq_true h1) (by decide)
end
end Mine.Internal
namespace Mine.Internal
open PySem PyProof.Rows

noncomputable def primVal : Prim → Value
  | .len => .builtin "len"
  | .range => .type "range"
  | .list _ => .type "list"
  | .max => .builtin "max"
  | .min => .builtin "min"
  | .abs => .builtin "abs"
  | .int => .type "int"

theorem rngLen_up (a b : Int) : (Builtin.Range.rangeSize a b 1).toNat = rngLen a b 1 := by
  rw [rangeSize_one]; unfold rngLen
  simp only [show (0 : Int) < 1 by decide, if_true]
  split <;> simp
theorem rngLen_down (a b : Int) : (Builtin.Range.rangeSize a b (-1)).toNat = rngLen a b (-1) := by
  unfold Builtin.Range.rangeSize rngLen
  simp only [show ¬ (-1 : Int) > 0 by decide, if_false]
  by_cases h : b < a
  · rw [if_pos h, if_pos h]; simp only [Int.neg_neg, Int.ediv_one]; congr 1; lia
  · rw [if_neg h, if_neg h]; rfl
theorem max_val (a b : Int) (t u : Tok) : (if b > a then Value.int b u else Value.int a t) = .int (max a b) (if b > a then u else t) := by
  split <;> congr 1 <;> lia
theorem min_val (a b : Int) (t u : Tok) : (if b < a then Value.int b u else Value.int a t) = .int (min a b) (if b < a then u else t) := by
  split <;> congr 1 <;> lia
theorem abs_val (a : Int) : (if a < 0 then -a else a) = (a.natAbs : Int) := by split <;> lia
theorem rangeSize_nonneg (a b c : Int) : 0 ≤ Builtin.Range.rangeSize a b c := by
  unfold Builtin.Range.rangeSize
  split <;> split <;> first | exact Int.le_refl _ | skip
  · rename_i h1 h2
    have := Int.ediv_nonneg (a := b - a - 1) (b := c) (by first | decide | lia) (by first | decide | lia)
    lia
  · rename_i h1 h2
    by_cases hc : c = 0
    · subst hc; simp
    · have := Int.ediv_nonneg (a := a - b - 1) (b := -c) (by first | decide | lia) (by first | decide | lia)
      lia
theorem small_down {a b : Int} (ha : mid a = true) (hb : mid b = true) : Builtin.Range.small a b (-1) = true := by
  have ha := of_decide_eq_true ha
  have hb := of_decide_eq_true hb
  have e : Builtin.Range.rangeSize a b (-1) = if b < a then a - b else 0 := by
    unfold Builtin.Range.rangeSize
    rw [if_neg (by decide)]
    by_cases h : b < a
    · rw [if_pos h, if_pos h]; simp only [Int.neg_neg, Int.ediv_one]; lia
    · rw [if_neg h, if_neg h]
  unfold Builtin.Range.small
  rw [e]
  simp only [Builtin.Range.rangeFitsLong, Bool.and_eq_true, Bool.or_eq_true, decide_eq_true_eq, beq_iff_eq, show ¬ (-1 : Int) > 0 by decide, if_false]
  split <;> lia
theorem small_up {a b : Int} (ha : mid a = true) (hb : mid b = true) : Builtin.Range.small a b 1 = true := by
  have ha := of_decide_eq_true ha
  have hb := of_decide_eq_true hb
  exact small_one (by first | decide | lia) (by first | decide | lia) (by first | decide | lia) (by first | decide | lia)

section
variable {prog : Program} {w : World} {A : Around} {E : Value → Shared → Prop} {s : Shared} {G : Cfg} {ρ : Pl} {σ : H} {Q : Value → Shared → Prop}

theorem rngVRs {a c : Int} {n : Nat} {mu : Addr → Prop} {h : Heap} {acc : Array Value} (it : ItemsOf (fun i v => ∃ t, v = Value.int (a + i * c) t) acc n) : VRs G ρ mu h (rngItems a n c) acc.toList := by
  have aux : ∀ (l : List Value) (k : Nat), (∀ (j : Nat) (v : Value), l[j]? = some v → ∃ t, v = Value.int (a + (k + j : Nat) * c) t) → VRs G ρ mu h ((List.range' k l.length).map fun (k : Nat) => V.int (a + c * (k : Int))) l := by
    intro l
    induction l with
    | nil => intro k _; exact .nil
    | cons x r ih =>
      intro k hx
      rw [List.length_cons, List.range'_succ, List.map_cons]
      obtain ⟨t, ht⟩ := hx 0 x rfl
      refine .cons ?_ (ih (k + 1) fun j v hv => ?_)
      · rw [ht, Int.mul_comm c]; exact .int ..
      · obtain ⟨t, ht⟩ := hx (j + 1) v (by simpa using hv)
        exact ⟨t, by rw [ht]; congr 3; lia⟩
  obtain ⟨hs, hi⟩ := it
  have := aux acc.toList 0 fun j v hv => by
    obtain ⟨t, ht⟩ := hi j v (by simpa using hv)
    exact ⟨t, by rw [ht]; simp⟩
  unfold rngItems
  rw [List.range_eq_range', ← hs]
  simpa using this

theorem size_of {vs : List V} {xs : Array Value} {mu : Addr → Prop} {h : Heap} (hv : VRs G ρ mu h vs xs.toList) : vs.length = xs.size := hv.length.trans Array.length_toList
theorem fit_of {n : Nat} (h : n ≤ 2 ^ 20) : (n : Int) < 2 ^ 63 := by lia
theorem len_sound {a : V} {x : Value} (hr : HR G ρ σ s.heap) (ra : VR G ρ (muts ρ σ) s.heap a x) (req : Req G ρ σ s (some1 (asList σ a) fun vs => .ok (.int vs.length) σ) (VR G) Q E) : wpAny (model prog w) A (call (.builtin "len") [x]) Q E s := by
  obtain ⟨vs, hvs, req⟩ := some1_of req
  obtain ⟨a', xs, rfl, hl, hv, hz⟩ := asList_isList hr ra hvs
  refine PyProof.Rows.len_list hl (fit_of (size_of hv ▸ hz)) ?_
  rw [← size_of hv]; exact req.here hr (.int ..) _
theorem list_sound {m : Bool} {a : V} {x : Value} (hr : HR G ρ σ s.heap) (ra : VR G ρ (muts ρ σ) s.heap a x) (req : Req G ρ σ s (some1 (asList σ a) fun vs => newList m vs σ) (VR G) Q E) : wpAny (model prog w) A (call (.type "list") [x]) Q E s := by
  obtain ⟨vs, hvs, req⟩ := some1_of req
  obtain ⟨a', xs, n, o, rfl, ho, hc, hd, hv, hz⟩ := asList_sound hr ra hvs
  refine call_list_seq a' (.inl rfl) ho hc hd (fun h' c' hk hD => ?_) (Nat.le_trans (m := 2 ^ 20) (size_of hv ▸ hz) (by decide))
  exact newList_sound (tk := s.toks) hr req hk (size_none _) hD rfl rfl rfl hv
theorem primop_sound {p : Prim} {as : List V} {xs : List Value} (hh : A.handled = none ∨ notList p = true) (hr : HR G ρ σ s.heap) (ra : VRs G ρ (muts ρ σ) s.heap as xs)
    (req : Req G ρ σ s (primop p as σ) (VR G) Q E) : wpAny (model prog w) A (call (primVal p) xs) Q E s := by
  cases p with
  | len =>
    refine arg1_vr (fun xs => wpAny (model prog w) A (call (.builtin "len") xs) Q E s) ra req fun a x r req => ?_
    have r' := r
    cases r with
    | tup ho hn hc hd hv hz =>
      refine PyProof.Rows.len_tuple ⟨_, ho, hc, _, hd⟩ (fit_of (size_of hv ▸ hz)) ?_
      rw [← size_of hv]; exact req.here hr (.int ..) _
    | _ => exact len_sound hr r' req
  | range =>
    cases ra with
    | nil => exact req.elim
    | cons r1 ra =>
      cases ra with
      | nil =>
        refine int1_vr (fun x => wpAny (model prog w) A (call (.type "range") [x]) Q E s) r1 req fun i t req => ?_
        obtain ⟨hm, req⟩ := when1_of req
        refine call_range_1 (req _ ρ _ (Out.push hr) ?_)
        rw [← rngLen_up]
        exact .rng (IsRange.new ..) (not_ok hr (size_none _)) (small_up rfl hm)
      | cons r2 ra =>
        cases ra with
        | nil =>
          refine int2_vr (fun x y => wpAny (model prog w) A (call (.type "range") [x, y]) Q E s) r1 r2 req fun i t j u req => ?_
          obtain ⟨hm, req⟩ := when1_of req
          obtain ⟨h1, h2⟩ := Bool.and_eq_true_iff.mp hm
          refine call_range_2 (req _ ρ _ (Out.push hr) ?_)
          rw [← rngLen_up]
          exact .rng (IsRange.new ..) (not_ok hr (size_none _)) (small_up h1 h2)
        | cons r3 ra =>
          cases ra with
          | nil =>
            rename_i x y z
            refine int2_vr (fun x y => wpAny (model prog w) A (call (.type "range") [x, y, z]) Q E s) r1 r2 req fun i t j u req => int1_vr (fun z => wpAny (model prog w) A (call (.type "range") [.int i t, .int j u, z]) Q E s) r3 req fun c v req => ?_
            obtain ⟨hm, req⟩ := when1_of req
            obtain ⟨h3, hm⟩ := Bool.and_eq_true_iff.mp hm
            obtain ⟨h1, h2⟩ := Bool.and_eq_true_iff.mp hm
            cases of_decide_eq_true h3
            refine call_range_3 (by decide) (req _ ρ _ (Out.push hr) ?_) (.inl (PyProof.noPylong_small (by decide)))
            rw [← rngLen_down]
            exact .rng (IsRange.new ..) (not_ok hr (size_none _)) (small_down h1 h2)
          | cons => exact req.elim
  | list m =>
    refine arg1_vr (fun xs => wpAny (model prog w) A (call (.type "list") xs) Q E s) ra req fun a x r req => ?_
    have r' := r
    cases r with
    | rng hR hn hs =>
      have hz := newList_len req
      unfold rngItems at hz
      rw [List.length_map, List.length_range] at hz
      refine call_list_range (hh.resolve_right (fun q => by cases q)) hR hs (Int.toNat_of_nonneg (rangeSize_nonneg ..)).symm (Nat.le_trans hz (by decide)) fun h' tk acc' c' hk ho it => ?_
      exact newList_sound hr req hk (size_none _) ho rfl rfl rfl (rngVRs it)
    | _ => exact list_sound (m := m) hr r' req
  | max =>
    refine arg2_vr (fun xs => wpAny (model prog w) A (call (.builtin "max") xs) Q E s) ra req fun a x b y r1 r2 req => int2_vr (fun x y => wpAny (model prog w) A (call (.builtin "max") [x, y]) Q E s) r1 r2 req fun i t j u req => max_two_ints (hh.resolve_right (fun q => by cases q)) fun h' tk hk => ?_
    rw [max_val]
    exact req _ ρ { s with heap := h', toks := tk } (Out.keeps hr hk) (.int ..)
  | min =>
    refine arg2_vr (fun xs => wpAny (model prog w) A (call (.builtin "min") xs) Q E s) ra req fun a x b y r1 r2 req => int2_vr (fun x y => wpAny (model prog w) A (call (.builtin "min") [x, y]) Q E s) r1 r2 req fun i t j u req => min_two_ints (hh.resolve_right (fun q => by cases q)) fun h' tk hk => ?_
    rw [min_val]
    exact req _ ρ { s with heap := h', toks := tk } (Out.keeps hr hk) (.int ..)
  | abs =>
    refine arg1_vr (fun xs => wpAny (model prog w) A (call (.builtin "abs") xs) Q E s) ra req fun a x r req => int1_vr (fun x => wpAny (model prog w) A (call (.builtin "abs") [x]) Q E s) r req fun i t req => call_abs_int fun u tk => ?_
    rw [abs_val]
    exact req.here hr (.int ..) _
  | int => exact arg1_vr (fun xs => wpAny (model prog w) A (call (.type "int") xs) Q E s) ra req fun a x r req => bool1_vr (fun x => wpAny (model prog w) A (call (.type "int") [x]) Q E s) r req fun b req => call_int_bool (req.here hr (.int ..) _)

theorem strOk_append {x y : Str} (h1 : PyData.strOk x = true) (h2 : PyData.strOk y = true) : PyData.strOk (x ++ y) = true := by
  unfold PyData.strOk at *
  show (_ ++ _ : Array Nat).all _ = true
  rw [Array.all_append, h1, h2]; rfl
theorem strOk_join {sep : Str} (hs : PyData.strOk sep = true) : ∀ {l : List Str}, (∀ x ∈ l, PyData.strOk x = true) → PyData.strOk (Str.join sep l) = true
  | [], _ => by simp [Str.join, PyData.strOk, Str.empty]
  | [x], h => h x (.head _)
  | x :: y :: r, h => strOk_append (strOk_append (h x (.head _)) hs) (strOk_join hs fun z hz => h z (.tail _ hz))

theorem strs_sound {h : Heap} {mu : Addr → Prop} : ∀ {vs : List V} {xs : List Value} {ss : List Str}, VRs G ρ mu h vs xs → vs.mapM strOf = some ss → StrsAre xs ss ∧ ∀ x ∈ ss, PyData.strOk x = true
  | [], _, _, r, e => by cases r; cases (show some [] = some _ from e); exact ⟨.nil, fun _ h => nomatch h⟩
  | _ :: _, _, _, r, e => by
    cases r with
    | cons a b =>
      rw [List.mapM_cons] at e
      obtain ⟨x, hx, e⟩ := Option.bind_eq_some_iff.mp e
      obtain ⟨xs, hxs, e⟩ := Option.bind_eq_some_iff.mp e
      cases e
      obtain ⟨r1, r2⟩ := strs_sound b hxs
      cases a <;> first | cases hx | skip
      rename_i ok
      exact ⟨.cons _ _ r1, List.forall_mem_cons.mpr ⟨ok, r2⟩⟩

theorem joinop_sound {sep : Str} {t : Tok} {a : V} {x : Value} (hs : PyData.strOk sep = true) (hr : HR G ρ σ s.heap) (ra : VR G ρ (muts ρ σ) s.heap a x)
    (req : Req G ρ σ s (joinop sep a σ) (VR G) Q E) : wpAny (model prog w) A (call (.builtin "str.join") [.str sep t, x]) Q E s := by
  obtain ⟨vs, hvs, req⟩ := some1_of req
  obtain ⟨ss, hss, req⟩ := some1_of req
  obtain ⟨hok, req⟩ := when1_of req
  obtain ⟨a', xs, rfl, hl, hv, hz⟩ := asList_isList hr ra hvs
  obtain ⟨q1, q2⟩ := strs_sound hv hss
  refine join_list hl q1 (Nat.le_trans (of_decide_eq_true hok) (by decide)) fun t' k => ?_
  have e : Txt.join sep ss = Str.join sep ss := by simpa using join_closes (sep := sep) (ys := ss) rfl
  rw [e]
  exact req.here hr (.str _ _ (strOk_join hs q2)) _

noncomputable def tyVal (G : Cfg) : Ty → Value
  | .int => .type "int"
  | .bool => .type "bool"
  | .str => .type "str"
  | .list => .type "list"
  | .tuple => .type "tuple"
  | .cls c => .ref (G.cls c)
  | .verr => .type "ValueError"

theorem isiop_sound {T : Tab} {a : V} {t : Ty} {x : Value} (hr : HR G ρ σ s.heap) (ra : VR G ρ (muts ρ σ) s.heap a x) (hc : ∀ c, t ≠ .cls c) (hv : t ≠ .verr)
    (req : Req G ρ σ s (isiop T a t σ) (VR G) Q E) : wpAny (model prog w) A (call (.builtin "isinstance") [x, tyVal G t]) Q E s := by
  cases t with
  | int =>
    cases ra with
    | int => exact IsiPair.int_int (req.here hr (.bool _) _)
    | bool => exact IsiPair.bool_int (req.here hr (.bool _) _)
    | none => exact IsiPair.NoneType_int (req.here hr (.bool _) _)
    | str => exact IsiPair.str_int (req.here hr (.bool _) _)
    | tup ho _ hc => exact IsiPair.tuple_int ho hc (req.here hr (.bool _) _)
    | lst ho _ hc => exact IsiPair.list_int ho hc (req.here hr (.bool _) _)
    | _ => exact req.elim
  | bool =>
    cases ra with
    | bool => exact IsiPair.bool_bool (req.here hr (.bool _) _)
    | int => exact IsiPair.int_bool (req.here hr (.bool _) _)
    | none => exact IsiPair.NoneType_bool (req.here hr (.bool _) _)
    | _ => exact req.elim
  | str =>
    cases ra with
    | str => exact IsiPair.str_str (req.here hr (.bool _) _)
    | _ => exact req.elim
  | list =>
    cases ra with
    | lst ho _ hc => exact IsiPair.list_list ho hc (req.here hr (.bool _) _)
    | @ref i p hp =>
      replace req : Req G ρ σ s (iList (.ref i) σ) (VR G) Q E := req
      unfold iList at req
      cases hi : σ[i]? with
      | none => simp only [hi] at req; exact req.elim
      | some ob =>
        simp only [hi] at req
        cases ob with
        | list vs =>
          obtain ⟨_, o, xs, n, ho, hc, _⟩ := hr.objs _ _ _ hi hp
          exact IsiPair.list_list ho hc (req.here hr (.bool _) _)
        | _ => exact req.elim
    | _ => exact req.elim
  | tuple =>
    cases ra with
    | tup ho _ hc => exact IsiPair.tuple_tuple ho hc (req.here hr (.bool _) _)
    | _ => exact req.elim
  | cls d => exact absurd rfl (hc d)
  | verr => exact absurd rfl hv

theorem dom_of_same {h h' : Heap} {a : Addr} {o' : Obj} (hs : Heap.SameBut a h h') (ho' : h'.get? a = some o') : ∀ b ob, h.get? b = some ob → ∃ ob', h'.get? b = some ob' := fun b ob e => by
  by_cases q : b = a
  · subst q; exact ⟨_, ho'⟩
  · exact ⟨ob, (hs.2 b q).trans e⟩
theorem ext_of_same {h h' : Heap} {a : Addr} {o' : Obj} {mu mu' : Addr → Prop} (hs : Heap.SameBut a h h') (ho' : h'.get? a = some o') (ha : mu a) (hm : ∀ b, mu' b → mu b) : Ext ρ mu h ρ mu' h' :=
  ⟨fun _ _ e => e, dom_of_same hs ho', fun b ob nb e => by
    have nb' : b ≠ a := fun q => nb (q ▸ ha)
    exact ⟨fun m => nb (hm b m), fun _ => (hs.2 b nb').trans e, ob.slots, (hs.2 b nb').trans e⟩⟩

theorem HR.upd {h h' : Heap} {i : Nat} {p : Addr × Addr} {o o' : O} (hr : HR G ρ σ h) (hi : σ[i]? = some o) (hp : ρ[i]? = some p) (hne : o ≠ .dead)
    (k : ∀ b ob, b ≠ p.1 → b ≠ p.2 → h.get? b = some ob → h'.get? b = some ob) (dom : ∀ b ob, h.get? b = some ob → ∃ ob', h'.get? b = some ob')
    (ho : ∀ mu, (∀ b, mu b → muts ρ σ b) → OR G ρ mu h' p o') : HR G ρ (σ.set i o') h' ∧ Ext ρ (muts ρ σ) h ρ (muts ρ (σ.set i o')) h' := by
  have hil := (List.getElem?_eq_some_iff.mp hi).1
  have live : ∀ {j : Nat} {oj : O}, (σ.set i o')[j]? = some oj → oj ≠ .dead → ∃ oj', σ[j]? = some oj' ∧ oj' ≠ .dead := by
    intro j oj e n
    rw [List.getElem?_set] at e
    split at e
    · rename_i q; subst q; exact ⟨o, hi, hne⟩
    · exact ⟨oj, e, n⟩
  have hm : ∀ b, muts ρ (σ.set i o') b → muts ρ σ b := by
    rintro b ⟨j, oj, q, h1, h2, h3, h4⟩
    obtain ⟨oj', e1, e2⟩ := live h1 h2
    exact ⟨j, oj', q, e1, e2, h3, h4⟩
  have hx : Ext ρ (muts ρ σ) h ρ (muts ρ (σ.set i o')) h' := ⟨fun _ _ e => e, dom, fun b ob n e => by
    have n1 : b ≠ p.1 := fun q => n ⟨i, o, p, hi, hne, hp, .inl q⟩
    have n2 : b ≠ p.2 := fun q => n ⟨i, o, p, hi, hne, hp, .inr q⟩
    exact ⟨fun m => n (hm b m), fun _ => k b ob n1 n2 e, ob.slots, k b ob n1 n2 e⟩⟩
  refine ⟨⟨fun b ob e => ?_, fun a q => let ⟨ob, e⟩ := hr.fbd a q; dom a ob e, by simpa using hr.len, fun j oj q h1 h3 => ?_, fun b m => hr.new b (hm b m), fun a b oa ob q q' ha hb na nb hq hq' hab => ?_, fun b f m => hr.fbn b f (hm b m)⟩, hx⟩
  · refine k b ob (fun q => ?_) (fun q => ?_) (hr.stays b ob e)
    · rw [q, hr.new _ ⟨i, o, p, hi, hne, hp, .inl rfl⟩] at e; cases e
    · rw [q, hr.new _ ⟨i, o, p, hi, hne, hp, .inr rfl⟩] at e; cases e
  · rw [List.getElem?_set] at h1
    split at h1
    · rename_i z
      subst z
      cases h1
      rw [hp] at h3; cases h3
      exact ho _ hm
    · rename_i z
      by_cases hd : oj = .dead
      · subst hd; trivial
      · obtain ⟨a1, a2, a3, a4⟩ := hr.apart i j o oj p q hi h1 hne hd hp h3 z
        exact OR.ext hx (fun ob => k q.1 ob a1.symm a3.symm) (fun ob => k q.2 ob a2.symm a4.symm) (hr.objs j oj q h1 h3)
  · obtain ⟨oa', e1, e2⟩ := live ha na
    obtain ⟨ob', e3, e4⟩ := live hb nb
    exact hr.apart a b oa' ob' q q' e1 e3 e2 e4 hq hq' hab

theorem dict_mapSeq (o : Obj) (f : Array Value → Array Value) : (o.mapSeq f).dict = o.dict := by
  obtain ⟨c, d, dt, sl⟩ := o; cases dt <;> rfl
theorem list_append' {l : Addr} {o : Obj} {xs : Array Value} {n : Nat} {x : Value} (ho : s.heap.get? l = some o) (hc : o.cls = .type "list") (hd : o.data = .seq xs n) (hz : xs.size ≤ sizeLine)
    (hQ : ∀ h' o' n', h'.get? l = some o' → o'.cls = .type "list" → o'.data = .seq (xs.push x) n' → o'.dict = o.dict → Heap.SameBut l s.heap h' → Q .none { s with heap := h' }) :
    wpAny (model prog w) A (call (.builtin "list.append") [.ref l, x]) Q E s := by
  have hl : s.heap.IsList l xs := ⟨o, ho, hc, n, hd⟩
  obtain ⟨n', hd'⟩ := Obj.data_mapSeq hd (·.push x)
  refine wpAny_call_entry slot_list_append hl.typeIs entry_list_append ?_ (args_list_append _ _)
  show wpAny _ _ (updateSeq l (·.push x) >>= fun _ => ret .none) _ _ s
  refine wpAny_bind (wpAny_updateSeq ho hd (wpAny_pure ⟨.none, rfl, ?_⟩) hz (by simp; lia))
  exact hQ _ _ n' (Heap.get?_update_self _ ho (Obj.isFreed_of_seq hd')) ((Obj.cls_mapSeq ..).trans hc) hd' (dict_mapSeq ..) (Heap.SameBut.update ..)
set_option maxRecDepth 10000 in
theorem setItem_list' {l : Addr} {o : Obj} {xs : Array Value} {n j : Nat} {k : Int} {t : Tok} {x : Value} {Q : Unit → Shared → Prop} (ho : s.heap.get? l = some o) (hc : o.cls = .type "list") (hd : o.data = .seq xs n) (hj : j < xs.size) (hk : k = (j : Int)) (hfit : k < 2 ^ 63)
    (hQ : ∀ h' o' n', h'.get? l = some o' → o'.cls = .type "list" → o'.data = .seq (xs.setIfInBounds j x) n' → o'.dict = o.dict → Heap.SameBut l s.heap h' → Q () { s with heap := h' }) :
    wpAny (model prog w) A (setItem (.ref l) (.int k t) x) Q E s := by
  have hl : s.heap.IsList l xs := ⟨o, ho, hc, n, hd⟩
  obtain ⟨n', hd'⟩ := Obj.data_mapSeq hd (·.setIfInBounds j x)
  have fin := hQ _ _ n' (Heap.get?_update_self _ ho (Obj.isFreed_of_seq hd')) ((Obj.cls_mapSeq ..).trans hc) hd' (dict_mapSeq ..) (Heap.SameBut.update ..)
  unfold setItem
  refine wpAny_holding (wpAny_bind (wpAny_sequenceKey hl.typeIs (by decide) ?_))
  refine wpAny_bind (wpAny_callSpecial?_slot (name := Str.ofString "__setitem__") hl.typeIs slot_list_setitem (wpAny_call_entry slot_list_setitem hl.typeIs entry_list_setitem ?_ (args_list_setitem _ _ _)))
  show wpAny _ _ (Builtin.List.listSubscript? (.int k t) >>= _) _ _ s
  refine wpAny_bind (wpAny_listSubscript_int (fitsIndex_of (by first | decide | lia) hfit) ?_)
  clear hfit
  subst hk
  show wpAny _ _ ((seqItemAt l j >>= fun r => pure (r.map (j, ·))) >>= _) _ _ s
  refine wpAny_bind (wpAny_bind (wpAny_seqItemAt ho hd (wpAny_pure ?_)))
  rw [Array.getElem?_eq_getElem hj]
  show wpAny _ _ (setSeqItemAt l j x >>= _) _ _ s
  refine wpAny_bind (wpAny_setSeqItemAt ho hd ?_)
  exact wpAny_bind (wpAny_pure (wpAny_pure ⟨.none, rfl, wpAny_pure fin⟩))

theorem appendop_sound {a v : V} {x y : Value} (hr : HR G ρ σ s.heap) (ra : VR G ρ (muts ρ σ) s.heap a x) (rv : VR G ρ (muts ρ σ) s.heap v y)
    (req : Req G ρ σ s (appendop a v σ) (VR G) Q E) : wpAny (model prog w) A (call (.builtin "list.append") [x, y]) Q E s := by
  refine list1_vr (fun x => wpAny (model prog w) A (call (.builtin "list.append") [x, y]) Q E s) ra req fun i p vs hi hp req => ?_
  obtain ⟨hz, req⟩ := when1_of req
  have hz := of_decide_eq_true hz
  obtain ⟨e12, o, xs, n, ho, hc, hd, hv, _, hdd⟩ := hr.objs _ _ _ hi hp
  have hl := hv.length
  simp only [Array.length_toList] at hl
  refine list_append' ho hc hd (by rw [sizeLine_eq]; lia) fun h' o' n' ho' hc' hd' hdd' hs => ?_
  have X := HR.upd (h' := h') (o' := .list (vs ++ [v])) hr hi hp (by intro q; cases q) (fun b ob n1 _ e => (hs.2 b n1).trans e) (dom_of_same hs ho')
    fun mu hmu => ⟨e12, o', _, n', ho', hc', hd', by
      have Y : Ext ρ (muts ρ σ) s.heap ρ mu h' := ext_of_same hs ho' ⟨_, _, _, hi, (by intro z; cases z), hp, .inl rfl⟩ hmu
      simpa using (hv.ext Y).append (.cons (rv.ext Y) .nil), by simp; lia, hdd'.trans hdd⟩
  exact req _ ρ { s with heap := h' } ⟨X.1, X.2, rfl, rfl⟩ .none

theorem setitemop_sound {a i v : V} {x y z : Value} {Q : Unit → Shared → Prop} (hr : HR G ρ σ s.heap) (ra : VR G ρ (muts ρ σ) s.heap a x) (ri : VR G ρ (muts ρ σ) s.heap i y) (rv : VR G ρ (muts ρ σ) s.heap v z)
    (req : Req G ρ σ s (setitemop a i v σ) (fun _ _ _ _ _ => True) Q E) : wpAny (model prog w) A (setItem x y z) Q E s := by
  refine list1_vr (fun x => wpAny (model prog w) A (setItem x y z) Q E s) ra req fun a p vs hi hp req => int1_vr (fun y => wpAny (model prog w) A (setItem (.ref p.1) y z) Q E s) ri req fun i u req => ?_
  obtain ⟨k, hk, req⟩ := some1_of req
  obtain ⟨h0, req⟩ := when1_of req
  have h0 := of_decide_eq_true h0
  obtain ⟨e12, o, xs, n, ho, hc, hd, hv, hz, hdd⟩ := hr.objs _ _ _ hi hp
  have hl := hv.length
  simp only [Array.length_toList] at hl
  obtain ⟨_, h2, h3, h4, h5⟩ := idx_eq _ _ _ hk
  rw [if_pos h0] at h2
  refine setItem_list' ho hc hd (j := k) (by first | decide | lia) h2.symm (by first | decide | lia) fun h' o' n' ho' hc' hd' hdd' hs => ?_
  have X := HR.upd (h' := h') (o' := .list (vs.set k v)) hr hi hp (by intro q; cases q) (fun b ob n1 _ e => (hs.2 b n1).trans e) (dom_of_same hs ho')
    fun mu hmu => ⟨e12, o', _, n', ho', hc', hd', by
      have Y : Ext ρ (muts ρ σ) s.heap ρ mu h' := ext_of_same hs ho' ⟨_, _, _, hi, (by intro z; cases z), hp, .inl rfl⟩ hmu
      simpa using (hv.ext Y).set k (rv.ext Y), by simpa using hz, hdd'.trans hdd⟩
  exact req () ρ { s with heap := h' } ⟨X.1, X.2, rfl, rfl⟩ trivial
end
end Mine.Internal
namespace Mine.Internal
open PySem PyProof.Rows

theorem zip_lookup {β : Type} : ∀ (ns : List Str) (xs : List β), ns.Nodup → xs.length = ns.length → ns.filterMap (fun n => ((ns.zip xs).lookup n).map (n, ·)) = ns.zip xs
  | [], _, _, _ => by simp
  | n :: ns, [], _, h => by simp at h
  | n :: ns, x :: xs, hn, hl => by
    have ih := zip_lookup ns xs (List.nodup_cons.mp hn).2 (by simpa using hl)
    rw [List.zip_cons_cons, List.filterMap_cons]
    simp only [List.lookup_cons, beq_self_eq_true, Option.map_some]
    congr 1
    have aux : ∀ l : List Str, (∀ m ∈ l, m ∈ ns) → l.filterMap (fun m => (match m == n with | true => some x | false => List.lookup m (ns.zip xs)).map (m, ·)) = l.filterMap fun m => ((ns.zip xs).lookup m).map (m, ·) := by
      intro l
      induction l with
      | nil => intro _; rfl
      | cons m r ihr =>
        intro hm
        have e : (m == n) = false := by
          rw [beq_eq_false_iff_ne]; rintro rfl; exact (List.nodup_cons.mp hn).1 (hm m (.head _))
        rw [List.filterMap_cons, List.filterMap_cons, e, ihr fun z hz => hm z (.tail _ hz)]
    exact (aux ns fun _ h => h).trans ih

theorem zip_lookup_isSome {β : Type} : ∀ (ns : List Str) (xs : List β), xs.length = ns.length → ∀ n ∈ ns, ((ns.zip xs).lookup n).isSome = true
  | n :: ns, [], h, _, _ => by simp at h
  | n :: ns, x :: xs, hl, m, hm => by
    rw [List.zip_cons_cons, List.lookup_cons]
    cases hb : m == n with
    | true => rfl
    | false =>
      cases hm with
      | head => simp at hb
      | tail _ hm => exact zip_lookup_isSome ns xs (by simpa using hl) m hm

theorem bind_plain {fd : FuncData} {as : List Arg} {xs : List Value} (hp : fd.params = ⟨[], as, none, [], [], none, []⟩) (hd : fd.defaults = .none) (hn : (as.map (·.arg)).Nodup) (hl : xs.length = as.length) :
    bindArgs fd ⟨xs, []⟩ = pure ((as.map (·.arg)).zip xs) := by
  have hl' : xs.length = (as.map (·.arg)).length := by simpa using hl
  have e1 : ((as.map (·.arg)).filter fun n => (((as.map (·.arg)).zip xs).lookup n).isNone) = [] := by
    rw [List.filter_eq_nil_iff]
    intro n hm
    have := zip_lookup_isSome _ xs hl' n hm
    rw [Option.isNone_iff_eq_none]
    intro h; rw [h] at this; cases this
  have e2 := zip_lookup _ xs hn hl'
  unfold bindArgs
  rw [hp, hd]
  have e3 : seqItems? .none = pure none := rfl
  simp only [List.map_nil, List.nil_append, List.forIn_nil, pure_bind, e3, Option.getD_none]
  have e4 : ¬ (xs.length > (as.map (·.arg)).length) := by lia
  simp only [List.length_nil, Nat.sub_zero, List.drop_nil, List.take_length, e1, List.isEmpty_nil, Bool.not_true, List.append_nil, e2, List.zip_nil_right, List.forIn_nil, pure_bind]
  rw [if_neg (by simp [hl])]
  simp
end Mine.Internal
namespace Mine.Internal
open PySem PyProof.Rows

theorem wpAny_nsSetB {M : Model} {A : Around} {E : Value → Shared → Prop} {s : Shared} {a : Addr} {m : Str → Option Value} {k : Nat} {name : Str} {v : Value} {Q : Unit → Shared → Prop} (hn : NsB s.heap a m k)
    (h : ∀ h', NsB h' a (fun x => if x = name then some v else m x) (if (m name).isSome then k else k + 1) → Heap.SameBut a s.heap h' → (∀ o, s.heap.get? a = some o → ∃ o', h'.get? a = some o' ∧ o'.cls = o.cls) → Q () { s with heap := h', toks := s.toks + 1 }) : wpAny M A (nsSet a name v) Q E s := by
  obtain ⟨o, es, ep, ho, hd, hk, hm, hz⟩ := hn
  have hany : es.any (·.refKey) = false := by
    rw [Array.any_eq_false']; intro e he; obtain ⟨n, t, h⟩ := hk e he; simp [DictEntry.refKey, h]
  unfold nsSet
  refine wpAny_bind (wpAny_bind (wpAny_askSetting (wpAny_pure (wpAny_bind (wpAny_mkText (wpAny_bind (wpAny_loadPart ho ?_)))))))
  rw [hd]
  dsimp only
  rw [aRefKeyMayBeTheName_eq]
  unfold aRefKeyMayBeTheNameByArray
  rw [hany, Bool.and_false]
  refine wpAny_updatePart ho (h _ ?_ (Heap.SameBut.update ..) ?_)
  rotate_left
  · intro o₂ ho₂
    rw [ho] at ho₂
    cases ho₂
    obtain ⟨c, d, dt, sl⟩ := o
    subst hd
    cases hi : es.findIdx? (·.key.isStr name) with
    | some i => exact ⟨_, Heap.get?_update_self _ ho (by simp only [Obj.putName_eq, Obj.putNameByArray, hi]; rfl), by simp only [Obj.putName_eq, Obj.putNameByArray, hi]⟩
    | none => exact ⟨_, Heap.get?_update_self _ ho (by simp only [Obj.putName_eq, Obj.putNameByArray, hi]; rfl), by simp only [Obj.putName_eq, Obj.putNameByArray, hi]⟩
  obtain ⟨c, d, dt, sl⟩ := o
  subst hd
  have hfi : nsFind es name = m name := hm name
  unfold nsFind at hfi
  rw [findBy_of_findIdx?] at hfi
  cases hi : es.findIdx? (·.key.isStr name) with
  | some i =>
    have hlt : i < es.size := (Array.findIdx?_eq_some_iff_getElem.mp hi).1
    rw [hi] at hfi
    refine ⟨_, _, ep, Heap.get?_update_self _ ho (by simp only [Obj.putName_eq, Obj.putNameByArray, hi]; rfl), by simp only [Obj.putName_eq, Obj.putNameByArray, hi]; rfl, hk.modify _ _, fun x => ?_, ?_⟩
    · show _ = if x = name then some v else m x
      rw [← hm]; exact findBy_modify (fun n v => v.isStr n) Value.isStr_inj es name x v i hi
    · rw [← hfi]; simp [hlt]; exact hz
  | none =>
    rw [hi] at hfi
    refine ⟨_, _, ep + 1, Heap.get?_update_self _ ho (by simp only [Obj.putName_eq, Obj.putNameByArray, hi]; rfl), by simp only [Obj.putName_eq, Obj.putNameByArray, hi]; rfl, hk.push _ _ _ _, fun x => ?_, ?_⟩
    · show _ = if x = name then some v else m x
      rw [← hm]
      exact findBy_push (fun n v => v.isStr n) es name x _ _ v (fun y => by
        show (name == y) = decide (y = name)
        by_cases h : y = name
        · subst h; simp
        · have : ¬ name = y := fun e => h e.symm
          simp [this, h]) hi
    · rw [← hfi]; simp; exact hz

theorem NsB.of {h : Heap} {d : Addr} {m : Str → Option Value} (hn : h.Ns d m) : ∃ k, NsB h d m k := let ⟨o, es, ep, a, b, c, d⟩ := hn; ⟨es.size, o, es, ep, a, b, c, d, Nat.le_refl _⟩

structure FR (G : Cfg) (names : List Str) (env : Env) (l : L) (ρ : Pl) (mu : Addr → Prop) (h : Heap) : Prop where
  kind : env.scope.kind = .function
  glob : env.globals = mainGlobals
  blt : env.builtins = builtinsNs
  len : l.length = names.length
  loc : ∃ m, h.Ns env.locals m ∧ ∀ x v, env.kindOf x = some .local → l[names.idxOf x]? = some (some v) → ∃ y, m x = some y ∧ VR G ρ mu h v y
  locN : ¬ mu env.locals
  locB : G.base.get? env.locals = none
  cel : ∀ x c, env.cells.lookup x = some c → ¬ mu c ∧ c ≠ env.locals ∧ G.base.get? c = none ∧ ∃ y o, h.get? c = some o ∧ o.cls = .type "cell" ∧ o.data = .cell y ∧
    (∀ v, env.kindOf x = some .cell → l[names.idxOf x]? = some (some v) → ∃ z, y = some z ∧ VR G ρ mu h v z)
  celK : ∀ x, env.kindOf x = some .cell → ∃ c, env.cells.lookup x = some c
  celA : ∀ x x' c, env.cells.lookup x = some c → env.cells.lookup x' = some c → x = x'

noncomputable def own (env : Env) (a : Addr) : Prop := a = env.locals ∨ ∃ x, env.cells.lookup x = some a

section
variable {G : Cfg} {names : List Str} {env : Env} {l : L} {ρ ρ' : Pl} {mu mu' : Addr → Prop} {h h' : Heap}
theorem FR.ext (x : Ext ρ mu h ρ' mu' h') (r : FR G names env l ρ mu h) : FR G names env l ρ' mu' h' := by
  obtain ⟨m, ⟨o, es, ep, ho, hd, hk, hm⟩, hv⟩ := r.loc
  obtain ⟨n', _, sl, ho'⟩ := x.keep _ _ r.locN ho
  refine ⟨r.kind, r.glob, r.blt, r.len, ⟨m, ⟨_, es, ep, ho', hd, hk, hm⟩, fun y v a b => let ⟨z, e, q⟩ := hv y v a b; ⟨z, e, q.ext x⟩⟩, n', r.locB, fun y c e => ?_, r.celK, r.celA⟩
  obtain ⟨q1, q2, q3, z, o, ho, hc, hd, hv⟩ := r.cel y c e
  obtain ⟨e', n''⟩ := x.keepObj q1 ho (by rw [hc]; decide)
  exact ⟨n'', q2, q3, z, o, e', hc, hd, fun v a b => let ⟨z', e, q⟩ := hv v a b; ⟨z', e, q.ext x⟩⟩

theorem FR.vk (x : VK G.fb ρ mu h ρ' mu' h') (k : ∀ a o, own env a → h.get? a = some o → ¬ mu a → ¬ mu' a ∧ ((o.cls ≠ .type "frame" → h'.get? a = some o) ∧ ∃ sl, h'.get? a = some { o with slots := sl })) (r : FR G names env l ρ mu h) : FR G names env l ρ' mu' h' := by
  obtain ⟨m, ⟨o, es, ep, ho, hd, hk, hm⟩, hv⟩ := r.loc
  obtain ⟨n', _, sl, ho'⟩ := k _ _ (.inl rfl) ho r.locN
  refine ⟨r.kind, r.glob, r.blt, r.len, ⟨m, ⟨_, es, ep, ho', hd, hk, hm⟩, fun y v a b => let ⟨z, e, q⟩ := hv y v a b; ⟨z, e, q.vk x⟩⟩, n', r.locB, fun y c e => ?_, r.celK, r.celA⟩
  obtain ⟨q1, q2, q3, z, o, ho, hc, hd, hv⟩ := r.cel y c e
  obtain ⟨n'', e', _⟩ := k _ _ (.inr ⟨y, e⟩) ho q1
  exact ⟨n'', q2, q3, z, o, e' (by rw [hc]; decide), hc, hd, fun v a b => let ⟨z', e, q⟩ := hv v a b; ⟨z', e, q.vk x⟩⟩

theorem FR.own_not (r : FR G names env l ρ mu h) {a : Addr} (ha : own env a) : ¬ mu a ∧ G.base.get? a = none ∧ ∃ o, h.get? a = some o ∧ ¬ isVal o := by
  rcases ha with rfl | ⟨x, e⟩
  · obtain ⟨m, ⟨o, es, ep, ho, hd, _⟩, _⟩ := r.loc
    refine ⟨r.locN, r.locB, o, ho, fun v => ?_⟩
    rcases v.2 with ⟨xs, n, q⟩ | ⟨vs, q⟩ <;> rw [hd] at q <;> cases q
  · obtain ⟨q1, q2, q3, z, o, ho, hc, hd, hv⟩ := r.cel x a e
    refine ⟨q1, q3, o, ho, fun v => ?_⟩
    rcases v.2 with ⟨xs, n, q⟩ | ⟨vs, q⟩ <;> rw [hd] at q <;> cases q
end

structure Ex (fb ex : Addr → Prop) (ρ : Pl) (mu : Addr → Prop) (h : Heap) (ρ' : Pl) (mu' : Addr → Prop) (h' : Heap) : Prop where
  vk : VK fb ρ mu h ρ' mu' h'
  dom : ∀ a o, h.get? a = some o → ∃ o', h'.get? a = some o'
  keep : ∀ a o, ¬ mu a → ¬ ex a → h.get? a = some o → ¬ mu' a ∧ ((o.cls ≠ .type "frame" → h'.get? a = some o) ∧ ∃ sl, h'.get? a = some { o with slots := sl })
  frm : ∀ a o, ¬ mu a → h.get? a = some o → o.cls = .type "frame" → (∀ vs, o.data ≠ .fields vs) → ¬ mu' a ∧ ∃ o', h'.get? a = some o' ∧ o'.cls = .type "frame" ∧ ∀ vs, o'.data ≠ .fields vs

theorem Ext.ex {fb ex : Addr → Prop} {ρ ρ' : Pl} {mu mu' : Addr → Prop} {h h' : Heap} (x : Ext ρ mu h ρ' mu' h') : Ex fb ex ρ mu h ρ' mu' h' := ⟨x.vk, x.dom, fun a o n _ e => x.keep a o n e, fun a o n e c d => let ⟨n', _, _, e'⟩ := x.keep a o n e; ⟨n', _, e', c, d⟩⟩
theorem VK.trans {fb : Addr → Prop} {ρ ρ' ρ'' : Pl} {mu mu' mu'' : Addr → Prop} {h h' h'' : Heap} (x : VK fb ρ mu h ρ' mu' h') (y : VK fb ρ' mu' h' ρ'' mu'' h'') : VK fb ρ mu h ρ'' mu'' h'' :=
  ⟨fun i p e => y.pl i p (x.pl i p e), fun a o n f e v => let ⟨n', o', e', k⟩ := x.keep a o n f e v; let ⟨n'', o'', e'', k'⟩ := y.keep a o' n' f e' (k.val v); ⟨n'', o'', e'', k.trans k'⟩⟩
theorem Ex.trans {fb ex : Addr → Prop} {ρ ρ' ρ'' : Pl} {mu mu' mu'' : Addr → Prop} {h h' h'' : Heap} (x : Ex fb ex ρ mu h ρ' mu' h') (y : Ex fb ex ρ' mu' h' ρ'' mu'' h'') : Ex fb ex ρ mu h ρ'' mu'' h'' :=
  ⟨x.vk.trans y.vk, fun a o e => let ⟨o', e'⟩ := x.dom a o e; y.dom a o' e', fun a o n q e => by
    obtain ⟨n', k1, sl, k2⟩ := x.keep a o n q e
    obtain ⟨n'', l1, sl', l2⟩ := y.keep a _ n' q k2
    refine ⟨n'', fun hf => ?_, sl', l2⟩
    obtain ⟨_, l1', _⟩ := y.keep a _ n' q (k1 hf)
    exact l1' hf, fun a o n e c d => by
    obtain ⟨n', o', e', c', d'⟩ := x.frm a o n e c d
    exact y.frm a o' n' e' c' d'⟩
theorem Ex.toExt {fb ex : Addr → Prop} {ρ ρ' : Pl} {mu mu' : Addr → Prop} {h h' : Heap} (x : Ex fb ex ρ mu h ρ' mu' h') (hn : ∀ a, ex a → h.get? a = none) : Ext ρ mu h ρ' mu' h' :=
  ⟨x.vk.pl, x.dom, fun a o n e => x.keep a o n (fun q => by rw [hn a q] at e; cases e) e⟩

structure OutS (ex : Addr → Prop) (G : Cfg) (ρ : Pl) (σ : H) (s : Shared) (ρ' : Pl) (σ' : H) (s' : Shared) : Prop where
  hr : HR G ρ' σ' s'.heap
  ext : Ex G.fb ex ρ (muts ρ σ) s.heap ρ' (muts ρ' σ') s'.heap
  gens : s'.gens = s.gens
  os : s'.os = s.os
theorem Out.s {ex : Addr → Prop} {G : Cfg} {ρ ρ' : Pl} {σ σ' : H} {s s' : Shared} (x : Out G ρ σ s ρ' σ' s') : OutS ex G ρ σ s ρ' σ' s' := ⟨x.hr, x.ext.ex, x.gens, x.os⟩
theorem OutS.trans {ex : Addr → Prop} {G : Cfg} {ρ ρ' ρ'' : Pl} {σ σ' σ'' : H} {s s' s'' : Shared} (x : OutS ex G ρ σ s ρ' σ' s') (y : OutS ex G ρ' σ' s' ρ'' σ'' s'') : OutS ex G ρ σ s ρ'' σ'' s'' :=
  ⟨y.hr, x.ext.trans y.ext, y.gens.trans x.gens, y.os.trans x.os⟩

theorem HR.own {G : Cfg} {ρ : Pl} {σ : H} {h h' : Heap} {a : Addr} {o o' : Obj} {ex : Addr → Prop} (hr : HR G ρ σ h) (hn : ¬ muts ρ σ a) (hb : G.base.get? a = none) (ho : h.get? a = some o) (hv : ¬ isVal o ∨ G.fb a) (ho' : h'.get? a = some o') (hs : Heap.SameBut a h h') (hx : ex a) (hf : o.cls = .type "frame" → o'.cls = .type "frame" ∧ ∀ vs, o'.data ≠ .fields vs) :
    HR G ρ σ h' ∧ Ex G.fb ex ρ (muts ρ σ) h ρ (muts ρ σ) h' := by
  have vk : VK G.fb ρ (muts ρ σ) h ρ (muts ρ σ) h' := ⟨fun _ _ e => e, fun b ob n f e v => by
    have : b ≠ a := fun q => by
      rcases hv with hv | hv
      · rw [q, ho] at e; cases e; exact hv v
      · exact f (q ▸ hv)
    exact ⟨n, ob, (hs.2 b this).trans e, .inl rfl⟩⟩
  have other : ∀ b, muts ρ σ b → h'.get? b = h.get? b := fun b m => hs.2 b fun q => hn (q ▸ m)
  refine ⟨⟨fun b ob e => (hs.2 b fun q => by rw [q, hb] at e; cases e).trans (hr.stays b ob e), fun b q => let ⟨ob, e⟩ := hr.fbd b q; dom_of_same hs ho' b ob e, hr.len, fun i oi p h1 h3 => ?_, hr.new, hr.apart, hr.fbn⟩, vk, dom_of_same hs ho', fun b ob n q e => ?_, fun b ob n e c d => ?_⟩
  · by_cases hd : oi = .dead
    · subst hd; trivial
    · have e1 := other p.1 ⟨i, oi, p, h1, hd, h3, .inl rfl⟩
      have e2 := other p.2 ⟨i, oi, p, h1, hd, h3, .inr rfl⟩
      have := hr.objs i oi p h1 h3
      cases oi with
      | list vs =>
        obtain ⟨e, o, xs, n, ho, hc, hd, hv, hz⟩ := this
        exact ⟨e, o, xs, n, e1.trans ho, hc, hd, hv.vk vk, hz⟩
      | inst c fs =>
        obtain ⟨hne, ⟨o, ho, hc⟩, m, ⟨o', es, ep, ho', hm⟩, hf⟩ := this
        exact ⟨hne, ⟨o, e1.trans ho, hc⟩, m, ⟨o', es, ep, e2.trans ho', hm⟩, fun n => (hf n).imp id fun ⟨v, y, a, b, c⟩ => ⟨v, y, a, b, c.vk vk⟩⟩
      | dict es => exact this
      | dead => trivial
  · have : b ≠ a := fun z => q (z ▸ hx)
    exact ⟨n, fun _ => (hs.2 b this).trans e, ob.slots, (hs.2 b this).trans e⟩
  · by_cases z : b = a
    · rw [z, ho] at e; cases e
      exact ⟨n, o', z ▸ ho', hf c⟩
    · exact ⟨n, ob, (hs.2 b z).trans e, c, d⟩

section
variable {M : Model} {A : Around} {E : Value → Shared → Prop} {s : Shared} {G : Cfg} {names : List Str} {env : Env} {l : L} {ρ : Pl} {σ : H}

theorem var_sound {x : Str} {pos : Pos} {v : V} {Q : Value → Shared → Prop} (r : FR G names env l ρ (muts ρ σ) s.heap) (hk : env.kindOf x = some .local ∨ env.kindOf x = some .cell) (hl : l[names.idxOf x]? = some (some v)) (hd : (x == ("__debug__" : Str)) = false)
    (h : ∀ y, VR G ρ (muts ρ σ) s.heap v y → Q y s) : wpAny M A (eval (.Name x pos) env) Q E s := by
  rcases hk with hk | hk
  · obtain ⟨m, hn, hv⟩ := r.loc
    obtain ⟨y, e, q⟩ := hv x v hk hl
    exact wpAny_Name (wpAny_loadName_local r.kind hk hn e (h y q)) hd
  · obtain ⟨c, hc⟩ := r.celK x hk
    obtain ⟨q1, q2, q3, z, o, ho, hcl, hdt, hv⟩ := r.cel x c hc
    obtain ⟨y, e, q⟩ := hv v hk hl
    subst e
    exact wpAny_Name (wpAny_loadName_cell r.kind hk hc ⟨o, ho, hdt⟩ (h y q)) hd

theorem idxOf_inj : ∀ {ns : List Str} {x y : Str}, x ∈ ns → ns.idxOf x = ns.idxOf y → x = y
  | n :: ns, x, y, hx, e => by
    rw [List.idxOf_cons, List.idxOf_cons] at e
    cases h1 : n == x <;> cases h2 : n == y <;> simp only [h1, h2, cond_true, cond_false] at e
    · rcases List.mem_cons.mp hx with q | q
      · rw [q] at h1; simp at h1
      · exact idxOf_inj q (by first | decide | lia)
    · lia
    · lia
    · exact ((beq_iff_eq.mp h1).symm.trans (beq_iff_eq.mp h2))

theorem store_local {x : Str} {v : V} {y : Value} {Q : Unit → Shared → Prop} (hr : HR G ρ σ s.heap) (r : FR G names env l ρ (muts ρ σ) s.heap) (hx : x ∈ names) (hk : env.kindOf x = some .local) (q : VR G ρ (muts ρ σ) s.heap v y)
    (h : ∀ s', OutS (· = env.locals) G ρ σ s ρ σ s' → FR G names env (l.set (names.idxOf x) (some v)) ρ (muts ρ σ) s'.heap → Q () s') : wpAny M A (storeName env x y) Q E s := by
  have hlt : names.idxOf x < l.length := by rw [r.len]; exact List.idxOf_lt_length_of_mem hx
  have get : ∀ z w, (l.set (names.idxOf x) (some v))[names.idxOf z]? = some (some w) → (z = x ∧ w = v) ∨ (z ≠ x ∧ l[names.idxOf z]? = some (some w)) := by
    intro z w e
    rw [List.getElem?_set] at e
    split at e
    · rename_i q
      have : z = x := (idxOf_inj hx q).symm
      first | (rw [if_pos hlt] at e; cases e; exact .inl ⟨this, rfl⟩) | (cases e; exact .inl ⟨this, rfl⟩)
    · rename_i q
      exact .inr ⟨fun z => q (by rw [z]), e⟩
  obtain ⟨m, hn, hv⟩ := r.loc
  obtain ⟨o, es, ep, ho, hd, hks, hm⟩ := id hn
  obtain ⟨kk, hnk⟩ := NsB.of hn
  rw [storeName_local hk (by rw [r.kind]; rfl)]
  refine wpAny_nsSetB hnk (fun h' hn'k hs hcls => ?_)
  have hn' := hn'k.ns
  obtain ⟨o', es', ep', ho', hd', hks', hm'⟩ := id hn'
  have hnv : ¬ isVal o := fun v => by rcases v.2 with ⟨xs, n, q⟩ | ⟨vs, q⟩ <;> rw [hd] at q <;> cases q
  have X := HR.own (ex := (· = env.locals)) hr r.locN r.locB ho (.inl hnv) ho' hs rfl fun c => by
    obtain ⟨o₂, e, q⟩ := hcls _ ho
    rw [ho'] at e; cases e
    exact ⟨q.trans c, fun vs z => by rw [hd'] at z; cases z⟩
  refine h { s with heap := h', toks := s.toks + 1 } ⟨X.1, X.2, rfl, rfl⟩ ⟨r.kind, r.glob, r.blt, by simpa using r.len, ⟨_, hn', fun z w a b => ?_⟩, r.locN, r.locB, fun z c e => ?_, r.celK, r.celA⟩
  · rcases get z w b with ⟨rfl, rfl⟩ | ⟨n, b⟩
    · exact ⟨y, if_pos rfl, q.vk X.2.vk⟩
    · obtain ⟨t, e, q⟩ := hv z w a b
      exact ⟨t, by rw [if_neg n]; exact e, q.vk X.2.vk⟩
  · obtain ⟨q1, q2, q3, t, oc, hoc, hcl, hdt, hv⟩ := r.cel z c e
    refine ⟨q1, q2, q3, t, oc, (hs.2 c q2).trans hoc, hcl, hdt, fun w a b => ?_⟩
    rcases get z w b with ⟨rfl, rfl⟩ | ⟨n, b⟩
    · rw [hk] at a; cases a
    · obtain ⟨t, e, q⟩ := hv w a b
      exact ⟨t, e, q.vk X.2.vk⟩

theorem Ex.mono {fb ex ex' : Addr → Prop} {ρ ρ' : Pl} {mu mu' : Addr → Prop} {h h' : Heap} (x : Ex fb ex ρ mu h ρ' mu' h') (m : ∀ a, ex a → ex' a) : Ex fb ex' ρ mu h ρ' mu' h' := ⟨x.vk, x.dom, fun a o n q e => x.keep a o n (fun z => q (m a z)) e, x.frm⟩
theorem OutS.mono {ex ex' : Addr → Prop} {ρ' : Pl} {σ' : H} {s' : Shared} (x : OutS ex G ρ σ s ρ' σ' s') (m : ∀ a, ex a → ex' a) : OutS ex' G ρ σ s ρ' σ' s' := ⟨x.hr, x.ext.mono m, x.gens, x.os⟩

theorem store_sound {x : Str} {v : V} {y : Value} {Q : Unit → Shared → Prop} (hr : HR G ρ σ s.heap) (r : FR G names env l ρ (muts ρ σ) s.heap) (hx : x ∈ names) (hk : env.kindOf x = some .local ∨ env.kindOf x = some .cell) (q : VR G ρ (muts ρ σ) s.heap v y)
    (h : ∀ s', OutS (own env) G ρ σ s ρ σ s' → FR G names env (l.set (names.idxOf x) (some v)) ρ (muts ρ σ) s'.heap → Q () s') : wpAny M A (storeName env x y) Q E s := by
  have hlt : names.idxOf x < l.length := by rw [r.len]; exact List.idxOf_lt_length_of_mem hx
  have get : ∀ z w, (l.set (names.idxOf x) (some v))[names.idxOf z]? = some (some w) → (z = x ∧ w = v) ∨ (z ≠ x ∧ l[names.idxOf z]? = some (some w)) := by
    intro z w e
    rw [List.getElem?_set] at e
    split at e
    · rename_i q
      have : z = x := (idxOf_inj hx q).symm
      first | (rw [if_pos hlt] at e; cases e; exact .inl ⟨this, rfl⟩) | (cases e; exact .inl ⟨this, rfl⟩)
    · rename_i q
      exact .inr ⟨fun z => q (by rw [z]), e⟩
  rcases hk with hk | hk
  · exact store_local hr r hx hk q fun s' o f => h s' (o.mono fun a e => .inl e) f
  · obtain ⟨c, hc⟩ := r.celK x hk
    obtain ⟨q1, q2, q3, t, oc, hoc, hcl, hdt, hv⟩ := r.cel x c hc
    unfold storeName
    simp only [hk, r.kind]
    refine wpAny_bind (wpAny_cellOf hc ?_)
    unfold cellSet
    refine wpAny_bind (wpAny_load hoc ?_)
    rw [hdt]
    refine wpAny_update hoc ?_
    have hs := Heap.SameBut.update s.heap c fun o => { o with data := .cell (some y) }
    have ho' := Heap.get?_update_self (fun o => { o with data := Data.cell (some y) }) hoc rfl
    have hnv : ¬ isVal oc := fun v => by rcases v.2 with ⟨xs, n, q⟩ | ⟨vs, q⟩ <;> rw [hdt] at q <;> cases q
    have X := HR.own (ex := own env) hr q1 q3 hoc (.inl hnv) ho' hs (.inr ⟨x, hc⟩) fun c => by rw [hcl] at c; exact absurd c (by decide)
    obtain ⟨m, hn, hv'⟩ := r.loc
    refine h { s with heap := _ } ⟨X.1, X.2, rfl, rfl⟩ ⟨r.kind, r.glob, r.blt, by simpa using r.len, ⟨m, hn.sameBut hs q2.symm, fun z w a b => ?_⟩, r.locN, r.locB, fun z c' e => ?_, r.celK, r.celA⟩
    · rcases get z w b with ⟨rfl, rfl⟩ | ⟨n, b⟩
      · rw [hk] at a; cases a
      · obtain ⟨t, e, q⟩ := hv' z w a b
        exact ⟨t, e, q.vk X.2.vk⟩
    · by_cases hz : c' = c
      · subst hz
        have : z = x := r.celA z x c' e hc
        subst this
        refine ⟨q1, q2, q3, some y, _, ho', hcl, rfl, fun w a b => ?_⟩
        rcases get z w b with ⟨_, rfl⟩ | ⟨n, b⟩
        · exact ⟨y, rfl, q.vk X.2.vk⟩
        · exact absurd rfl n
      · obtain ⟨q1, q2, q3, t, o₂, ho₂, hcl₂, hdt₂, hv⟩ := r.cel z c' e
        refine ⟨q1, q2, q3, t, o₂, (hs.2 c' hz).trans ho₂, hcl₂, hdt₂, fun w a b => ?_⟩
        rcases get z w b with ⟨rfl, rfl⟩ | ⟨n, b⟩
        · rw [hc] at e; cases e; exact absurd rfl hz
        · obtain ⟨t, e, q⟩ := hv w a b
          exact ⟨t, e, q.vk X.2.vk⟩
end
end Mine.Internal
set_option maxRecDepth 100000
namespace Mine.Internal
open PySem PyProof.Rows PySem.W

noncomputable def clsIs (K : Frag) (C : Addr) : Bool := (clsIn K C).isSome && typeIn K (.ref C) == some (.type "type") && instIn K (.ref C) (.type "type") == some true
noncomputable def excFull (K : Frag) (C : Addr) : Bool := subIn K (.ref C) (.type "ValueError") == some true && (subIn K (.ref C) (.type "object") == some true && (subIn K (.ref C) (.type "BaseException") == some true && (findIn K (.ref C) "__getattribute__" == some (some (.builtin "BaseException.__getattribute__")) &&
  (findIn K (.ref C) "__getattr__" == some none && (findIn K (.ref C) "__class__" == some (some (.builtin "object.__class__")) && (subIn K (.ref C) (.ref C) == some true && clsIs K C))))))

section
variable {prog : Program} {w : World} {A : Around} {E : Value → Shared → Prop} {h : Heap} {g : Array GenState} {d : Drawn} {t : Nat} {os : OsState} {a C : Addr} {o : Obj} {K : Frag}

theorem class_get_exc {R : Result → Shared → Prop} (X : K.In h) (hs : subIn K (.ref C) (.type "object") = some true) (hx : h.get? a = some o) (hc : o.cls = .ref C) (hq : R (.ok (.ret (.ref C))) ⟨h, g, d, t, os⟩) :
    codeAny (model prog w) A (.call (.builtin "getset_descriptor.__get__") ⟨[.builtin "object.__class__", .ref a, .ref C], []⟩) R ⟨h, g, d, t, os⟩ := by
  have hT5 : (⟨h, g, d, t, os⟩ : Shared).TypeIs (.builtin "object.__class__") "getset_descriptor" := F.typeOf_object_class
  have L : ∀ M, Looks M h (isSubtype (.ref C) (.type (".".intercalate ("object.__class__".cutAt '.').dropLast))) true := fun M => by rw [F.owner_object_class]; exact looks_subIn X hs
  refine codeAny_call_builtin F.slot_gs_get.plain F.entry_gs_get (F.slot_gs_get.check _ _ _ _ _ _ _ _ hT5 (F.args_gs_get _ _ _) ?_)
  repeat (any_goals (first | assumption | (with_reducible refine wpAny_loadPart_at hx ?_; rw [hc]) | with_reducible refine Looks.at (L _) ?_ | wp_step))
  refine ⟨Code.quiet_builtin _ (by decide +kernel), codeAny_builtin F.entry_object_class ?_⟩
  repeat (any_goals (first | assumption | (with_reducible refine wpAny_loadPart_at hx ?_; rw [hc]) | wp_step))

theorem class_entry_exc {tk : Tok} {Q : Fin → Shared → Prop} (X : K.In h) (hs : subIn K (.ref C) (.type "object") = some true) (hf : findIn K (.ref C) "__class__" = some (some (.builtin "object.__class__"))) (hx : h.get? a = some o) (hc : o.cls = .ref C) (hq : Q (.done (.ret (.ref C))) ⟨h, g, d, t, os⟩) :
    wpAny (model prog w) A (Builtin.«object.__getattribute__» ⟨[.ref a, .str "__class__" tk], []⟩) Q E ⟨h, g, d, t, os⟩ := by
  have hT5 : (⟨h, g, d, t, os⟩ : Shared).TypeIs (.builtin "object.__class__") "getset_descriptor" := F.typeOf_object_class
  have f5 := F.typeOf_object_class
  have f6 := F.slot_gs_get.lookup
  have f7 := F.slot_gs_set.lookup
  repeat (any_goals (first | assumption | (with_reducible refine wpAny_loadPart_at hx ?_; rw [hc]) | with_reducible refine Looks.at (looks_findIn X hf) ?_ | wp_step))
  refine class_get_exc X hs hx hc ?_
  repeat (any_goals (first | assumption | wp_step))

theorem check_ga_exc {M : Model} {nameV : Value} {Q : Unit → Shared → Prop} (X : K.In h) (hs : subIn K (.ref C) (.type "BaseException") = some true)
    (hx : h.get? a = some o) (hc : o.cls = .ref C) (hq : Q () ⟨h, g, d, t, os⟩) : wpAny M A (checkBuiltinCall "BaseException.__getattribute__" ⟨[.ref a, nameV], []⟩) Q E ⟨h, g, d, t, os⟩ := by
  have hk : builtinKind "BaseException.__getattribute__" = some .slot := by decide +kernel
  have hsplit : splitId "BaseException.__getattribute__" = some ("BaseException", "__getattribute__") := by decide +kernel
  have ha := F.args_bexc_ga (.ref a) nameV
  simp only [checkBuiltinCall, hk, hsplit]
  refine wpAny_bind ?_
  unfold isInstance
  repeat (first | (with_reducible refine wpAny_loadPart_at hx ?_; rw [hc]) | with_reducible refine Looks.at (looks_subIn X hs) ?_ | wp_step)
  exact hq

theorem class_call_exc {tk : Tok} {R : Result → Shared → Prop} (X : K.In h) (e : excFull K C = true) (hx : h.get? a = some o) (hc : o.cls = .ref C) (hq : R (.ok (.ret (.ref C))) ⟨h, g, d, t, os⟩) :
    codeAny (model prog w) A (.call (.builtin "BaseException.__getattribute__") ⟨[.ref a, .str "__class__" tk], []⟩) R ⟨h, g, d, t, os⟩ := by
  unfold excFull at e
  simp only [Bool.and_eq_true, beq_iff_eq] at e
  exact codeAny_call_builtin F.excAttr_ValueError.ga.plain F.entry_bexc_ga (check_ga_exc X e.2.2.1 hx hc (class_entry_exc X e.2.1 e.2.2.2.2.2.1 hx hc hq))

theorem class_by_exc {tk : Tok} {Q : Value → Shared → Prop} (X : K.In h) (e : excFull K C = true) (hx : h.get? a = some o) (hc : o.cls = .ref C) (hq : Q (.ref C) ⟨h, g, d, t, os⟩) : wpAny (model prog w) A (getAttrBy (.ref a) (.str "__class__" tk) false) Q E ⟨h, g, d, t, os⟩ := by
  have e' := e
  unfold excFull at e'
  simp only [Bool.and_eq_true, beq_iff_eq] at e'
  have f3 := F.excAttr_ValueError.ga.bind (.ref a)
  have hx2 : (Value.builtin "BaseException.__getattribute__" == Value.builtin "object.__getattribute__") = false := by decide +kernel
  have hx1 : (onTheHeap (Value.ref C) && Value.builtin "BaseException.__getattribute__" == Value.builtin "object.__getattribute__") = false := by rw [hx2]; rfl
  repeat (any_goals (first | assumption | (with_reducible refine wpAny_loadPart_at hx ?_; rw [hc]) | with_reducible refine Looks.at (looks_findIn X e'.2.2.2.1) ?_ | with_reducible refine Looks.at (looks_findIn X e'.2.2.2.2.1) ?_ | wp_step))
  refine class_call_exc X e hx hc ?_
  repeat (any_goals (first | assumption | wp_step))

theorem class_attr_exc {Q : Option Value → Shared → Prop} (X : K.In h) (e : excFull K C = true) (hx : h.get? a = some o) (hc : o.cls = .ref C) (hq : Q (some (.ref C)) ⟨h, g, d, t + 1, os⟩) : wpAny (model prog w) A (getAttr? (.ref a) "__class__") Q E ⟨h, g, d, t, os⟩ := by
  unfold getAttr? getAttrBy?
  repeat (any_goals (first | assumption | with_reducible apply class_by_exc X e hx hc | wp_step))
end

section
variable {prog : Program} {w : World} {A : Around} {E : Value → Shared → Prop} {s : Shared} {K : Frag} {C D : Addr} {a : Addr} {o : Obj}

theorem isx_not_nested {dep : Int} {tk : Tok} {Q : Fin → Shared → Prop} (X : K.In s.heap) (hx : s.heap.get? a = some o) (hc : o.cls = .ref C) (e : excFull K C = true) (ec : clsIs K C = true) (ed : clsIs K D = true) (es : subIn K (.ref C) (.ref D) = some false) (hne : C ≠ D)
    (h : Q (.done (.ret (.bool false))) { s with toks := s.toks + 1 }) :
    wpAny (model prog w) A (Builtin.«isinstance.nested» ⟨[.ref a, .ref D, .int dep tk], []⟩) Q E s := by
  obtain ⟨hh, g, d, tt, os⟩ := s
  have ht : Looks (model prog w) hh (typeOf (.ref a)) (.ref C) := hc ▸ (Looks.ld hx).andThen .now
  unfold Builtin.«isinstance.nested»
  refine wpAny_bind (ht.at ?_)
  rw [if_neg (fun q => hne (by cases beq_iff_eq.mp q; rfl))]
  unfold clsIs at ec ed
  rw [Bool.and_eq_true, Bool.and_eq_true] at ec ed
  obtain ⟨⟨e0, e1⟩, e2⟩ := ed
  have L1 := looks_typeIn (M := model prog w) X (beq_iff_eq.mp e1)
  have L2 := looks_instIn (M := model prog w) X (beq_iff_eq.mp e2)
  have L4 : Looks (model prog w) hh (isSubtype (.ref C) (.ref D)) false := looks_subIn X es
  have L3 : Looks (model prog w) hh (isInstance (.ref a) (.ref D)) false := ht.andThen L4
  refine wpAny_bind (L1.at ?_)
  rw [if_pos (by decide)]
  k_delta "plainIsInstance"
  have LT : ∀ {Z : Addr}, (clsIn K Z).isSome = true → Looks (model prog w) hh (isType (.ref Z)) true := fun {Z} ez => by
    unfold clsIn at ez
    split at ez
    · rename_i ho
      unfold isType
      exact (Looks.ld (X _ _ ho)).andThen .now
    · cases ez
  refine wpAny_bind (wpAny_bind ((LT e0).at ?_))
  simp only [Bool.not_true, Bool.false_eq_true, if_false]
  refine wpAny_bind (L3.at ?_)
  simp only [Bool.false_eq_true, if_false]
  refine wpAny_bind (class_attr_exc X e hx hc ?_)
  refine wpAny_bind ((LT ec.1.1).at ?_)
  simp only [Bool.not_true, Bool.false_eq_true, if_false]
  refine wpAny_bind (wpAny_rule ?_)
  refine L4.at ?_
  exact wpAny_pure h

theorem isx_not {Q : Value → Shared → Prop} (X : K.In s.heap) (hx : s.heap.get? a = some o) (hc : o.cls = .ref C) (e : excFull K C = true) (ec : clsIs K C = true) (ed : clsIs K D = true) (es : subIn K (.ref C) (.ref D) = some false) (hne : C ≠ D)
    (h : Q (.bool false) { s with toks := s.toks + 1 }) : wpAny (model prog w) A (call (.builtin "isinstance") [.ref a, .ref D]) Q E s :=
  call_isinstance (S := fun _ R s => (K.In s.heap ∧ s.heap.get? a = some o) ∧ R (.ok (.ret (.bool false))) { s with toks := s.toks + 1 })
    (fun _ _ _ _ _ hs => isinstance_outer (isx_not_nested hs.1.1 hs.1.2 hc e ec ed es hne hs.2) (by intro q; cases q)) ⟨⟨X, hx⟩, h⟩

theorem isx_ve_nested {dep : Int} {tk : Tok} {Q : Fin → Shared → Prop} (X : K.In s.heap) (hx : s.heap.get? a = some o) (hc : o.cls = .ref C) (e : excFull K C = true) 
    (h : Q (.done (.ret (.bool true))) s) :
    wpAny (model prog w) A (Builtin.«isinstance.nested» ⟨[.ref a, .type "ValueError", .int dep tk], []⟩) Q E s := by
  obtain ⟨hh, g, d, tt, os⟩ := s
  have ht : Looks (model prog w) hh (typeOf (.ref a)) (.ref C) := hc ▸ (Looks.ld hx).andThen .now
  unfold Builtin.«isinstance.nested»
  refine wpAny_bind (ht.at ?_)
  rw [if_neg (fun q => by cases beq_iff_eq.mp q)]
  unfold excFull at e
  simp only [Bool.and_eq_true, beq_iff_eq] at e
  have L4 : Looks (model prog w) hh (isSubtype (.ref C) (.type "ValueError")) true := looks_subIn X e.1
  have L3 : Looks (model prog w) hh (isInstance (.ref a) (.type "ValueError")) true := ht.andThen L4
  have f : typeOf (.type "ValueError") = pure (.type "type") := by kernel_rfl
  refine wpAny_bind (wpAny_of_eq f ?_)
  rw [if_pos (by decide)]
  k_delta "plainIsInstance"
  refine wpAny_bind (wpAny_bind (wpAny_of_eq (a := true) rfl ?_))
  simp only [Bool.not_true, Bool.false_eq_true, if_false]
  refine wpAny_bind (L3.at ?_)
  simp only [if_true]
  exact wpAny_pure (wpAny_pure h)

theorem isx_ve {Q : Value → Shared → Prop} (X : K.In s.heap) (hx : s.heap.get? a = some o) (hc : o.cls = .ref C) (e : excFull K C = true) 
    (h : Q (.bool true) s) : wpAny (model prog w) A (call (.builtin "isinstance") [.ref a, .type "ValueError"]) Q E s :=
  call_isinstance (S := fun _ R s => (K.In s.heap ∧ s.heap.get? a = some o) ∧ R (.ok (.ret (.bool true))) s)
    (fun _ _ _ _ _ hs => isinstance_outer (isx_ve_nested hs.1.1 hs.1.2 hc e hs.2) (by intro q; cases q)) ⟨⟨X, hx⟩, h⟩
end
end Mine.Internal
namespace Mine.Internal
open PySem PyProof.Rows PySem.W

structure FnI where
  addr : Addr
  fn : Fn
  names : List Str
  rk : Nat
  qt : Nat := 0

structure CI where
  addr : Addr
  init : Option Nat
  meths : List (Nat × Nat)
  mro : Option (List Nat) := none
  flat : Bool := true

structure PI where
  fns : List FnI
  nm : List Str
  flds : List Nat
  cls : List CI

noncomputable def PI.nmOf (P : PI) (n : Nat) : Str := (P.nm[n]?).getD Str.empty
noncomputable def PI.clsOf (P : PI) (c : Nat) : Addr := ((P.cls[c]?).map (·.addr)).getD 0
noncomputable def PI.flatOf (P : PI) (c : Nat) : Bool := ((P.cls[c]?).map (·.flat)).getD true
noncomputable def PI.tab (P : PI) (F : Nat → List V → H → Res V) (_sub : Nat → Nat → Bool) : Tab where
  F := F
  init := fun c => (P.cls[c]?).bind (·.init)
  meth := fun c n => (P.cls[c]?).bind fun ci => ci.meths.lookup n
  mro := fun c => (P.cls[c]?).bind (·.mro)
  flat := P.flatOf

noncomputable def primName : Prim → Str
  | .len => "len" | .range => "range" | .list _ => "list" | .max => "max" | .min => "min" | .abs => "abs" | .int => "int"
noncomputable def tyName : Ty → Option Str
  | .int => some "int" | .bool => some "bool" | .str => some "str" | .list => some "list" | .tuple => some "tuple" | .cls _ => none | .verr => some "ValueError"

noncomputable def notSlice (e : Expr) : Bool := e.ctorIdx != 26
noncomputable def notSet (e : Expr) : Bool := e.ctorIdx != 7
noncomputable def notStar (e : Expr) : Bool := e.ctorIdx != 22
noncomputable def notCall0 : Expr → Bool
  | .Call _ [] _ _ => false
  | _ => true

noncomputable def tCls (t : Ty) (k : Nat → Bool) : Bool := match t with
  | .cls d => k d
  | _ => false
theorem tCls_of {t : Ty} {k : Nat → Bool} (h : tCls t k = true) : ∃ d, t = .cls d ∧ k d = true := by
  cases t <;> first | exact ⟨_, rfl, h⟩ | cases h

structure Ev where
  names : List Str
  kind : Str → Option NameKind
  qt : Nat := 0

noncomputable def Ev.var (v : Ev) (x : Str) (j : Nat) : Bool := (v.kind x == some .local || v.kind x == some .cell) && v.names.idxOf x == j && decide (j < v.names.length) && x != ("__debug__" : Str)
noncomputable def Ev.glob (v : Ev) (x : Str) : Bool := v.kind x == some .globalImplicit && x != ("__debug__" : Str)

noncomputable def compKind (scope : Scope) (kind : Str → Option NameKind) (x : Str) : Option NameKind :=
  (scope.names.map fun (n, k) => if k == .free && kind n == some .cell then (n, NameKind.cell) else (n, k)).lookup x
noncomputable def compOk (scope : Scope) (v : Ev) (x : Str) : Bool :=
  scope.kind == .function && scope.names.all (fun p => p.2 != .cell) && scope.names.lookup x == some .local &&
  scope.names.all (fun p => p.2 != .local || (scope.names.lookup p.1 == some .local && (p.1 == x || !v.names.contains p.1))) &&
  scope.names.all (fun p => p.2 != .free || v.kind p.1 == some .cell) && x != ("__debug__" : Str) && v.qt == 0

section
variable (P : PI) (K : Frag) (rk : Nat)

noncomputable def chkAll (f : CE → Expr → Bool) : List CE → List Expr → Bool
  | [], [] => true
  | c :: cs, e :: es => notStar e && f c e && chkAll f cs es
  | _, _ => false

noncomputable def bo (op : BoolOp) (a b : CE) : CE := match op with
  | .And => .and a b
  | .Or => .or a b
noncomputable def isBo (op : BoolOp) (c : CE) (k : CE → CE → Bool) : Bool := match op with
  | .And => if h : c.ctorIdx = 8 then @CE.and.elim (fun _ => Bool) c h k else false
  | .Or => if h : c.ctorIdx = 9 then @CE.or.elim (fun _ => Bool) c h k else false
theorem isBo_el {op : BoolOp} {c : CE} {k : CE → CE → Bool} (M : CE → Prop) (h : isBo op c k = true) (f : ∀ a b, k a b = true → M (bo op a b)) : M c := by
  cases op with
  | And => exact @CE.and.elim (fun c => isBo .And c k = true → M c) c (dif_of h).1 f h
  | Or => exact @CE.or.elim (fun c => isBo .Or c k = true → M c) c (dif_of h).1 f h
noncomputable def chkBool (f : CE → Expr → Bool) (op : BoolOp) : List Expr → CE → Bool
  | [], _ => false
  | e :: es, c => (es.isEmpty && f c e) || isBo op c fun a b => f a e && chkBool f op es b

noncomputable def chkOpt (f : CE → Expr → Bool) : CE → Option Expr → Bool
  | .none, none => true
  | c, some e => f c e
  | _, _ => false

noncomputable def isCls (x : Str) (c : Nat) : Bool := match P.cls[c]? with
  | some ci => nsIn K mainGlobals x == some (some (.ref ci.addr))
  | none => false

noncomputable def isInt (i : Int) (o : Option (Option Value)) : Bool := o1 o fun o => o1 o fun x => vInt x fun i' => i == i'
noncomputable def fnLt (q i : Nat) : Bool := o1 P.fns[i]? fun fi => decide (fi.rk < rk) && decide (q ≤ fi.qt)
noncomputable def chkG (g : Ev → CE → Expr → Bool) (v : Ev) (elt it : CE) (elt' : Expr) (scope : Scope) (c : Comprehension) (k : Ev → Bool) : Bool :=
  eName c.target fun x => c.is_async == 0 && (notSet c.iter && (g v it c.iter && (compOk scope v x && (g ⟨x :: v.names, compKind scope v.kind, 0⟩ elt elt' && k ⟨x :: v.names, compKind scope v.kind, 0⟩))))
noncomputable def chkC (g : Ev → CE → Expr → Bool) (v : Ev) (c : CE) (elt' : Expr) (gens : List Comprehension) (scope : Scope) : Bool := match c with
  | .comp _ elt it => l1 gens fun c => c.ifs.isEmpty && chkG g v elt it elt' scope c fun _ => true
  | .compIf _ elt it cond => l1 gens fun c => l1 c.ifs fun i => chkG g v elt it elt' scope c fun v' => g v' cond i
  | _ => false
noncomputable def chkP (e : Expr) (k : Str → List Expr → Bool) : Bool := eCall e fun g args kws => kws.isEmpty && eName g fun x => k x args
noncomputable def chkM (e : Expr) (k : Expr → Str → List Expr → Bool) : Bool := eCallP e fun g args kws pos => kws.isEmpty && eAttrP g fun ov name apos => apos.endLine == pos.line && k ov name args
noncomputable def chk1 (g : Ev → CE → Expr → Bool) (v : Ev) (c : CE) (e : Expr) : Bool := match c with
  | .var j => eName e fun x => v.var x j
  | .none => eConst e fun k => cNone k true
  | .bool b => eConst e fun k => cBool k fun b' => b == b'
  | .int i => (eConst e fun k => cInt k fun i' => i == i') || eName e fun x => v.glob x && isInt i (nsIn K mainGlobals x)
  | .str s => eConst e fun k => cStr k fun s' => s == s' && PyData.strOk s
  | .bin _ op a b => eBin e fun l o r => o == opOf op && (g v a l && g v b r)
  | .neg a => eUn e fun op x => op == .USub && g v a x
  | .not a => eUn e fun op x => op == .Not && g v a x
  | .and a b => eBo e fun op es => op == .And && chkBool (g v) .And es (.and a b)
  | .or a b => eBo e fun op es => op == .Or && chkBool (g v) .Or es (.or a b)
  | .cmp op a b => eCmp e fun l ops rs => l1 ops fun o => l1 rs fun r => o == cmpOf op && (g v a l && g v b r)
  | .cmp2 o1 o2 a b d => eCmp e fun l ops rs => l2 ops fun p1 p2 => l2 rs fun r1 r2 => p1 == cmpOf o1 && (p2 == cmpOf o2 && (g v a l && (g v b r1 && g v d r2)))
  | .slice _ a lo hi => eSubs e fun x s => eSlice s fun l u t => t.isNone && (g v a x && (chkOpt (g v) lo l && chkOpt (g v) hi u))
  | .sub a i => eSubs e fun x s => notSlice s && (g v a x && g v i s)
  | .call i as => chkP e fun x args => v.glob x && ((o1 P.fns[i]? fun fi => nsIn K mainGlobals x == some (some (.ref fi.addr)) && (decide (fi.rk < rk) && decide (v.qt ≤ fi.qt))) && chkAll (g v) as args)
  | .isi a t => chkP e fun x args => l2 args fun e t' => eName t' fun ty => x == ("isinstance" : Str) && (v.glob x && (nsIn K mainGlobals x == some none && (notStar e && (g v a e && (v.glob ty && ((o1 (tyName t) fun nm => ty == nm && nsIn K mainGlobals ty == some none) || tCls t fun d => isCls P K ty d && clsIs K (P.clsOf d)))))))
  | .prim p as => chkP e fun x args => (v.qt == 0 || notList p) && (x == primName p && (v.glob x && (nsIn K mainGlobals x == some none && chkAll (g v) as args)))
  | .append o x => chkM e fun ov name args => l1 args fun arg => name == ("append" : Str) && (notCall0 ov && (notStar arg && (g v o ov && g v x arg)))
  | .join sep a => chkM e fun ov name args => l1 args fun arg => eConst ov fun k => cStr k fun s => name == ("join" : Str) && (s == sep && (PyData.strOk sep && (notStar arg && g v a arg)))
  | .list _ es => eList e fun es' => chkAll (g v) es es'
  | .tup es => eTup e fun es' => chkAll (g v) es es'
  | c => eLC e fun elt' gens scope => chkC g v c elt' gens scope
noncomputable def chkE : Nat → Ev → CE → Expr → Bool
  | 0, _, _, _ => false
  | n + 1, v, c, e => chk1 P K rk (chkE n) v c e
end
end Mine.Internal
namespace Mine.Internal
open PySem PyProof.Rows PySem.W

structure Wld (G : Cfg) (K : Frag) : Prop where
  X : K.In G.base
  g : ∃ mg, G.base.Ns mainGlobals mg
  b : ∃ mb, G.base.Ns builtinsNs mb ∧ ∀ x : Str, x ≠ "__name__" → mb x = bootBuiltins x
  nl : G.base.NoLimit

noncomputable def FrOk (G : Cfg) (fr : List Env) (mu : Addr → Prop) (h : Heap) : Prop :=
  ∀ e ∈ fr, e.scope.kind ≠ .module ∧ ∃ L o, e.frame = some L ∧ G.base.get? L = none ∧ ¬ mu L ∧ h.get? L = some o ∧ o.cls = .type "frame" ∧ ∀ vs, o.data ≠ .fields vs

theorem FrOk.ext {G : Cfg} {fr : List Env} {ρ ρ' : Pl} {mu mu' : Addr → Prop} {h h' : Heap} (x : Ext ρ mu h ρ' mu' h') (r : FrOk G fr mu h) : FrOk G fr mu' h' := fun e he => by
  obtain ⟨a, L, o, h1, h2, h3, h4, h5, h6⟩ := r e he
  obtain ⟨n', _, sl, e'⟩ := x.keep L o h3 h4
  exact ⟨a, L, _, h1, h2, n', e', h5, h6⟩

noncomputable def HOk (q : Nat) (A : Around) (mu : Addr → Prop) (h : Heap) : Prop :=
  A.handled = none ∨ 2 ≤ q ∨ (1 ≤ q ∧ ∃ e o vs C, A.handled = some (.ref e) ∧ ¬ mu e ∧ h.get? e = some o ∧ o.cls = .ref C ∧ o.data = .fields vs ∧ vs[2]? = some .none)
theorem HOk.ext {q : Nat} {A : Around} {ρ ρ' : Pl} {mu mu' : Addr → Prop} {h h' : Heap} (x : Ext ρ mu h ρ' mu' h') (r : HOk q A mu h) : HOk q A mu' h' :=
  r.imp id fun r => r.imp id fun ⟨q1, e, o, vs, C, a, b, c, d, r⟩ => let ⟨k1, k2⟩ := x.keepObj b c (fun z => by rw [d] at z; cases z); ⟨q1, e, o, vs, C, a, k2, k1, d, r⟩
theorem HOk.le {q q' : Nat} {A : Around} {mu : Addr → Prop} {h : Heap} (r : HOk q A mu h) (l : q ≤ q') : HOk q' A mu h := r.imp id fun r => r.imp (fun z => Nat.le_trans z l) fun ⟨a, b⟩ => ⟨Nat.le_trans a l, b⟩
theorem HOk.none {q : Nat} {A : Around} {mu : Addr → Prop} {h : Heap} (r : HOk q A mu h) (e : q = 0) : A.handled = .none := r.elim id fun r => by lia

noncomputable def RoomF (A : Around) (r : Nat) : Prop := A.depth + 4 * r + 6 < 1000 ∧ A.units + 20 * r + 200 < 9900
noncomputable def RoomB (A : Around) (r : Nat) : Prop := A.depth + 4 * r + 5 < 1000 ∧ A.units + 20 * r + 190 < 9900

noncomputable def ReqR (G : Cfg) (ρ : Pl) (σ : H) (s : Shared) (r : Res V) (R : Result → Shared → Prop) : Prop :=
  Req G ρ σ s r (VR G) (fun x s' => R (.ok (.ret x)) s') (fun e s' => R (.error e) s')

noncomputable def SFn (prog : Program) (w : World) (G : Cfg) (T : Tab) (f : Nat) (fi : FnI) : Prop :=
  ∀ (A : Around) (fr : List Env) (ρ : Pl) (σ : H) (s : Shared) (vs : List V) (xs : List Value) (R : Result → Shared → Prop), RoomF A fi.rk → HOk fi.qt A (muts ρ σ) s.heap → A.frames = some fr → FrOk G fr (muts ρ σ) s.heap → HR G ρ σ s.heap →
    VRs G ρ (muts ρ σ) s.heap vs xs → ReqR G ρ σ s (T.F f vs σ) R → codeAny (model prog w) A (.call (.ref fi.addr) ⟨xs, []⟩) R s

structure ClsOk (K : Frag) (P : PI) (ci : CI) : Prop where
  makes : makesIn K ci.addr = true
  init : ∀ f, ci.init = some f → ∃ fi, P.fns[f]? = some fi ∧ findIn K (.ref ci.addr) "__init__" = some (some (.ref fi.addr)) ∧ isFn K (.ref fi.addr) = true
  keep : keepIn K (.ref ci.addr) = true
  get : plainGet K ci.addr "" = true
  dict : hasDictIn K ci.addr = true
  over : plainOver K ci.addr = true
  set : findIn K (.ref ci.addr) "__setattr__" = some (some (.builtin "object.__setattr__"))
  fld : ∀ n ∈ P.flds, findIn K (.ref ci.addr) (P.nmOf n) = some none
  meth : ∀ n f, ci.meths.lookup n = some f → ∃ fi, P.fns[f]? = some fi ∧ findIn K (.ref ci.addr) (P.nmOf n) = some (some (.ref fi.addr)) ∧ isFn K (.ref fi.addr) = true

noncomputable def MroOk (K : Frag) (P : PI) (c : Nat) (m : List Nat) : Prop := excFull K (P.clsOf c) = true ∧ ∀ d, d < P.cls.length → subIn K (.ref (P.clsOf c)) (.ref (P.clsOf d)) = some (m.contains d)

structure Hyp (prog : Program) (w : World) (G : Cfg) (K : Frag) (P : PI) (T : Tab) (rk : Nat) : Prop where
  W : Wld G K
  nm : G.nm = P.nmOf
  cl : G.cls = P.clsOf
  ti : T.init = fun c => (P.cls[c]?).bind (·.init)
  tm : T.meth = fun c n => (P.cls[c]?).bind fun ci => ci.meths.lookup n
  co : ∀ (c : Nat) (ci : CI), P.cls[c]? = some ci → ci.init.isSome = true → ClsOk K P ci
  sf : ∀ (fb : Addr → Prop) (f : Nat) (fi : FnI), P.fns[f]? = some fi → fi.rk < rk → SFn prog w { G with fb := fb } T f fi
  fk : ∀ (f : Nat) (fi : FnI), P.fns[f]? = some fi → keepIn K (.ref fi.addr) = true
  fl : G.flat = P.flatOf
  tf : T.flat = P.flatOf
  ts : ∀ c m, T.mro c = some m → MroOk K P c m

theorem Hyp.fb {prog : Program} {w : World} {G : Cfg} {K : Frag} {P : PI} {T : Tab} {rk : Nat} (Y : Hyp prog w G K P T rk) (fb : Addr → Prop) : Hyp prog w { G with fb := fb } K P T rk :=
  ⟨⟨Y.W.X, Y.W.g, Y.W.b, Y.W.nl⟩, Y.nm, Y.cl, Y.ti, Y.tm, Y.co, Y.sf, Y.fk, Y.fl, Y.tf, Y.ts⟩

section
variable {prog : Program} {w : World} {A : Around} {E : Value → Shared → Prop} {s : Shared} {G : Cfg} {K : Frag} {P : PI} {T : Tab} {rk : Nat} {ρ : Pl} {σ : H} {env : Env} {names : List Str} {l : L}

theorem glob_load {x : Str} {pos : Pos} {v : Value} {Q : Value → Shared → Prop} (W : Wld G K) (hr : HR G ρ σ s.heap) (r : FR G names env l ρ (muts ρ σ) s.heap) (hk : env.kindOf x = some .globalImplicit) (hd : (x == ("__debug__" : Str)) = false)
    (e : nsIn K mainGlobals x = some (some v)) (h : Q v s) : wpAny (model prog w) A (eval (.Name x pos) env) Q E s := by
  obtain ⟨mg, hg⟩ := W.g
  refine Calls.Name_function_global r.kind hk (Calls.loadGlobal_global (mg := mg) ?_ (mg_of W.X hg e) h) hd
  rw [r.glob]; exact hg.keeps hr.stays
theorem builtin_load {x : Str} {pos : Pos} {v : Value} {Q : Value → Shared → Prop} (W : Wld G K) (hr : HR G ρ σ s.heap) (r : FR G names env l ρ (muts ρ σ) s.heap) (hk : env.kindOf x = some .globalImplicit) (hd : (x == ("__debug__" : Str)) = false)
    (e : nsIn K mainGlobals x = some none) (hv : bootBuiltins x = some v) (hn : x ≠ "__name__") (h : Q v s) : wpAny (model prog w) A (eval (.Name x pos) env) Q E s := by
  obtain ⟨mg, hg⟩ := W.g
  obtain ⟨mb, hb, he⟩ := W.b
  refine Calls.Name_function_global r.kind hk (Calls.loadGlobal_builtin (mg := mg) (mb := mb) ?_ (mg_none_of W.X hg e) ?_ ((he x hn).trans hv) h) hd
  · rw [r.glob]; exact hg.keeps hr.stays
  · rw [r.blt]; exact hb.keeps hr.stays

theorem Wld.here (W : Wld G K) (hr : HR G ρ σ s.heap) : K.In s.heap := W.X.keeps hr.stays

theorem starEach_cons {e : Expr} {es : List Expr} (h : notStar e = true) : starEach (e :: es) env = (false, eval e env) :: starEach es env := by
  cases e <;> first | rfl | cases h

theorem callWith_args {f : Value} {first : List Value} {args : List Expr} {pos : Pos} {Q : Value → Shared → Prop} (hs : ∀ e ∈ args, notStar e = true)
    (hk : ∀ s' : Shared, G.base.StaysIn s'.heap → ∃ k, (k = Keeper.frame ∨ k = Keeper.machine ∨ k = Keeper.boundFrame) ∧ Looks (model prog w) s'.heap (keeperOf f) k)
    (h : wpAny (model prog w) A (spliced (backTo pos (starEach args env))) (fun xs s₁ => G.base.StaysIn s₁.heap ∧ wpAny (model prog w) A (call f (first ++ xs)) Q E s₁) E s) :
    wpAny (model prog w) A (callWith pos f first (backTo pos (starEach args env)) []) Q E s := by
  have plain : ∀ {args : List Expr}, (∀ e ∈ args, notStar e = true) → (backTo pos (starEach args env)).any (·.1) = false := by
    intro args
    induction args with
    | nil => intro _; rfl
    | cons e es ih =>
      intro hs
      rw [starEach_cons (hs e (.head _))]
      show (false || (backTo pos (starEach es env)).any (·.1)) = false
      rw [ih fun z hz => hs z (.tail _ hz)]; rfl
  refine callWith_of (P := fun h => G.base.StaysIn h) (by rw [plain hs]; rfl) (fun h hh => hk { s with heap := h } hh) ?_
  cases args with
  | nil =>
    unfold evalArgs
    show wpAny _ _ (spliced [] >>= _) _ _ _
    refine wpAny_bind (wpAny_mono h (fun vs s' h' => wpAny_bind (wpAny_pure (wpAny_holding ?_))) fun _ _ x => x)
    exact wpAny_bind (wpAny_pure (wpAny_bind (wpAny_pure (wpAny_pure h'))))
  | cons e es =>
    rw [starEach_cons (hs e (.head _))] at h ⊢
    exact Calls.evalArgs_plain h
end
end Mine.Internal
namespace Mine.Internal
open PySem PyProof.Rows PySem.W

structure Lnd (G : Cfg) (fs : List Addr) (h₀ : Heap) (mu : Addr → Prop) (h h' : Heap) (c : Nat) (e : Addr) : Prop where
  er : ER G h₀ mu h' c e
  head : ∃ oe vs T, h'.get? e = some oe ∧ oe.data = .fields vs ∧ vs[1]? = some (.ref T)
  exc : ∃ o o', h.get? e = some o ∧ h'.get? e = some o' ∧ o.cls = .ref (G.cls c) ∧ o'.cls = o.cls ∧ ∃ vs, o'.data = .fields vs
  keep : ∀ a o, h.get? a = some o → a ≠ e → (o.cls ≠ .type "traceback" ∨ (∃ o', h₀.get? a = some o') ∨ mu a ∨ ∃ o', G.base.get? a = some o') → (a ∉ fs → h'.get? a = some o) ∧ ∃ sl, h'.get? a = some { o with slots := sl }
  dom : ∀ a o, h.get? a = some o → ∃ o', h'.get? a = some o'

theorem frames_ok {G : Cfg} {mu : Addr → Prop} {h : Heap} : ∀ {fr : List Env}, FrOk G fr mu h → h.FunFrames G.base fr
  | [], _ => trivial
  | env :: r, fo => by
    obtain ⟨a, L, o, h1, h2, _, h4, _, h6⟩ := fo env (.head _)
    exact ⟨a, ⟨L, o, h1, h2, h4, h6⟩, frames_ok fun e he => fo e (.tail _ he)⟩

theorem Lnd.trans {G : Cfg} {fs : List Addr} {h₀ h h' h'' : Heap} {mu : Addr → Prop} {c : Nat} {e : Addr} (x : Lnd G fs h₀ mu h h' c e) (y : Lnd G fs h₀ mu h' h'' c e) : Lnd G fs h₀ mu h h'' c e := by
  refine ⟨y.er, y.head, ?_, fun a o q ne hor => ?_, fun a o q => let ⟨o', q'⟩ := x.dom a o q; y.dom a o' q'⟩
  · obtain ⟨o, o', q1, q2, q3, q4, _⟩ := x.exc
    obtain ⟨p, p', r1, r2, r3, r4, r5⟩ := y.exc
    rw [q2] at r1; cases r1
    exact ⟨o, p', q1, r2, q3, r4.trans q4, r5⟩
  · obtain ⟨k1, sl, k2⟩ := x.keep a o q ne hor
    obtain ⟨l1, sl', l2⟩ := y.keep a _ k2 ne hor
    refine ⟨fun hm => ?_, sl', l2⟩
    exact (y.keep a o (k1 hm) ne hor).1 hm

section
variable {M : Model} {A : Around} {E : Value → Shared → Prop} {s : Shared} {G : Cfg} {h₀ : Heap} {mu : Addr → Prop} {c : Nat} {e L : Addr} {env env₀ : Env} {outer : List Env} {Q : Unit → Shared → Prop}

theorem entry_lnd {h : Heap} {head : Value} {had : Bool} {oe : Obj} {vs : Array Value} (hfr : A.frames = some (env₀ :: outer)) (hfe : env.frame = env₀.frame) (fo : FrOk G (env₀ :: outer) mu s.heap) (hf : env₀.frame = some L)
    (hmu : ∀ a, mu a → ∃ o, s.heap.get? a = some o) (hb : G.base.StaysIn s.heap) (h0 : ∀ a o, h₀.get? a = some o → ∃ o', s.heap.get? a = some o')
    (nw : h₀.get? e = none) (nm : ¬ mu e) (nb : G.base.get? e = none) (he : s.heap.get? e = some oe) (hc : oe.cls = .ref (G.cls c)) (hd : oe.data = .fields vs) (hfl : G.flat c = true → vs[2]? = some .none) (hsz : 1 < vs.size)
    (hk : ∀ a o, h.get? a = some o → a ≠ e → (o.cls ≠ .type "traceback" ∨ (∃ o', h₀.get? a = some o') ∨ mu a ∨ ∃ o', G.base.get? a = some o') → s.heap.get? a = some o) (hdm : ∀ a o, h.get? a = some o → ∃ o', s.heap.get? a = some o')
    (hoe : ∃ o, h.get? e = some o ∧ o.cls = oe.cls)
    (k : ∀ h', Lnd G ((env₀ :: outer).filterMap (·.frame)) h₀ mu h h' c e → Q () { s with heap := h' }) :
    wpAny M A (do let a ← PySem.frameOf env; let pl ← entryPlaceOf L had; let b ← EntryCells.newEntry head a .none (rawInt L) .none pl; setField (.ref e) 1 b) Q E s := by
  have FF := frames_ok fo
  have nfe : e ∉ (env₀ :: outer).filterMap (·.frame) := fun hm => by
    obtain ⟨_, o, ho, hnf⟩ := FF.mem hm
    rw [he] at ho; cases ho; exact hnf vs hd
  have efr : PySem.frameOf env = PySem.frameOf env₀ := by unfold PySem.frameOf; rw [hfe]
  rw [efr]
  refine wpAny_bind (wpAny_frameOf_fun hfr FF hf fun h₁ hs₁ => wpAny_bind (wpAny_entryPlaceOf fun pl hpl => ?_))
  unfold EntryCells.newEntry newFields
  refine wpAny_bind (wpAny_newObj_type ?_ (hpl.sizeOk5 _ _ _ _ _))
  have he₁ : h₁.get? e = some oe := (hs₁.2.1 e nfe).trans he
  generalize hob : ({ cls := .type "traceback", dict := none, data := .fields ([head, .ref L, .none, rawInt L, .none] ++ (if pl.isEmpty then List.replicate 6 Value.none else pl)).toArray } : Obj) = ob
  have hobc : ob.cls = .type "traceback" := by rw [← hob]
  have hobd : ob.data = .fields ([head, .ref L, .none, rawInt L, .none] ++ (if pl.isEmpty then List.replicate 6 Value.none else pl)).toArray := by rw [← hob]
  have hobf : ob.isFreed = false := Obj.isFreed_of_fields hobd
  have he₂ := Heap.get?_push_of_some (h := h₁) ob he₁
  refine wpAny_setField he₂ hd hsz (k _ ?_)
  have hTe : h₁.objs.size ≠ e := Nat.ne_of_gt (Heap.lt_size he₁)
  have hd₃ := Obj.data_mapFields hd (·.setIfInBounds 1 (Value.ref h₁.objs.size))
  have he₃ := Heap.get?_update_self (Obj.mapFields (·.setIfInBounds 1 (Value.ref h₁.objs.size))) he₂ (Obj.isFreed_of_fields hd₃)
  have hT₃ := (Heap.get?_update_other (h₁.push ob) (Obj.mapFields (·.setIfInBounds 1 (Value.ref h₁.objs.size))) (Ne.symm hTe)).trans (Heap.get?_push_size h₁ hobf)
  have keep : ∀ b o, b ≠ e → h₁.get? b = some o → ((h₁.push ob).update e (Obj.mapFields (·.setIfInBounds 1 (Value.ref h₁.objs.size)))).get? b = some o := fun b o hbe hb => by
    rw [Heap.get?_update_other _ _ (Ne.symm hbe)]
    exact Heap.get?_push_of_some _ hb
  have hT1 : h₁.get? h₁.objs.size = none := size_none _
  have gone : ∀ a o, s.heap.get? a = some o → a ≠ h₁.objs.size := fun a o q z => by
    by_cases hm : a ∈ (env₀ :: outer).filterMap (·.frame)
    · obtain ⟨sl, e'⟩ := hs₁.2.2 a o q
      rw [z, hT1] at e'; cases e'
    · have := (hs₁.2.1 a hm).trans q
      rw [z, hT1] at this; cases this
  have nT : ∀ {h₂ : Heap}, (∀ a o, h₂.get? a = some o → ∃ o', s.heap.get? a = some o') → h₂.get? h₁.objs.size = none := fun {h₂} z => by
    cases q : h₂.get? h₁.objs.size with
    | none => rfl
    | some o => obtain ⟨o', e'⟩ := z _ _ q; exact absurd rfl (gone _ _ e')
  have h1' : (vs.setIfInBounds 1 (Value.ref h₁.objs.size))[1]? = some (.ref h₁.objs.size) := by simp [hsz]
  refine ⟨⟨nw, nm, nb, _, _, he₃, (Obj.cls_mapFields _ _).trans hc, hd₃, (fun q => by rw [Array.getElem?_setIfInBounds_ne (by decide)]; exact hfl q), .inr ⟨h₁.objs.size, _, _, h1', hTe, nT h0, fun m => ?_, nT fun a o q => ⟨o, hb a o q⟩, hT₃, hobc, hobd, ?_⟩⟩, ⟨_, _, _, he₃, hd₃, h1'⟩, ?_, fun a o ha hne hor => ?_, fun a o ha => ?_⟩
  · obtain ⟨o, q⟩ := hmu _ m
    exact gone _ _ q rfl
  · rw [List.size_toArray, List.length_append]
    show 3 < 5 + _
    lia
  · obtain ⟨o, q1, q2⟩ := hoe
    exact ⟨o, _, q1, he₃, q2.trans hc, (Obj.cls_mapFields _ _).trans q2.symm, _, hd₃⟩
  · have hs := hk a o ha hne hor
    refine ⟨fun hm => keep a o hne ((hs₁.2.1 a hm).trans hs), ?_⟩
    obtain ⟨sl, q⟩ := hs₁.2.2 a o hs
    exact ⟨sl, keep a _ hne q⟩
  · obtain ⟨o', q⟩ := hdm a o ha
    by_cases hne : a = e
    · rw [hne]; exact ⟨_, he₃⟩
    · obtain ⟨sl, q'⟩ := hs₁.2.2 a o' q
      exact ⟨_, keep a _ hne q'⟩

theorem note_lnd (hfr : A.frames = some (env₀ :: outer)) (hfe : env.frame = env₀.frame) (fo : FrOk G (env₀ :: outer) mu s.heap) (hmu : ∀ a, mu a → ∃ o, s.heap.get? a = some o) (hb : G.base.StaysIn s.heap) (h0 : ∀ a o, h₀.get? a = some o → ∃ o', s.heap.get? a = some o')
    (er : ER G h₀ mu s.heap c e) (k : ∀ h', Lnd G ((env₀ :: outer).filterMap (·.frame)) h₀ mu s.heap h' c e → Q () { s with heap := h' }) :
    wpAny M A (noteFrame (.ref e) env) Q E s := by
  obtain ⟨_, L, oL, hf, hLb, hLm, hL, hLc, hLd⟩ := fo env₀ (.head _)
  obtain ⟨oe, vs, he, hc, hd, hfl, ht⟩ := er.obj
  unfold noteFrame
  simp only [hfe, hf]
  rcases ht with h1 | ⟨T, oT, ts, h1, hTe, hT0, hTm, hTb, hT, hTc, hTd, h3⟩
  · refine wpAny_bind (wpAny_field he hd h1 ?_)
    rw [if_neg (by decide)]
    exact entry_lnd hfr hfe fo hf hmu hb h0 er.new er.nmu er.nb he hc hd hfl (Array.getElem?_eq_some_iff.mp h1).1 (fun a o q _ _ => q) (fun a o q => ⟨o, q⟩) ⟨oe, he, rfl⟩ k
  · refine wpAny_bind (wpAny_field he hd h1 ?_)
    rw [if_pos (show (Value.ref T != Value.none) = true from by simp)]
    refine wpAny_bind (wpAny_field hT hTd (Array.getElem?_eq_getElem h3) ?_)
    by_cases hy : (ts[3] == rawInt L) = true
    · rw [if_pos hy]
      have := k s.heap ⟨er, ⟨oe, vs, T, he, hd, h1⟩, ⟨oe, oe, he, he, hc, rfl, vs, hd⟩, fun a o q _ _ => ⟨fun _ => q, o.slots, q⟩, fun a o q => ⟨o, q⟩⟩
      exact wpAny_pure this
    rw [if_neg hy]
    refine wpAny_bind (wpAny_setField hT hTd h3 ?_)
    have other : ∀ b, b ≠ T → (s.heap.update T (Obj.mapFields (·.setIfInBounds 3 Value.none))).get? b = s.heap.get? b := fun b hb => Heap.get?_update_other _ _ (Ne.symm hb)
    have hTd' := Obj.data_mapFields hTd (·.setIfInBounds 3 Value.none)
    have self := Heap.get?_update_self (Obj.mapFields (·.setIfInBounds 3 Value.none)) hT (Obj.isFreed_of_fields hTd')
    have dm : ∀ a o, s.heap.get? a = some o → ∃ o', (s.heap.update T (Obj.mapFields (·.setIfInBounds 3 Value.none))).get? a = some o' := fun a o q => by
      by_cases z : a = T
      · rw [z]; exact ⟨_, self⟩
      · exact ⟨o, (other a z).trans q⟩
    refine entry_lnd (h := s.heap) hfr hfe (fun en hen => ?_) hf (fun a m => ?_) (fun b o q => (other b fun z => by rw [z, hTb] at q; cases q).trans (hb b o q)) (fun a o q => ?_) er.new er.nmu er.nb ((other e (Ne.symm hTe)).trans he) hc hd hfl (Array.getElem?_eq_some_iff.mp h1).1
      (fun a o q hne hor => (other a fun z => ?_).trans q) dm ⟨oe, he, rfl⟩ k
    · obtain ⟨q1, L', o', q2, q3, q4, q5, q6, q7⟩ := fo en hen
      exact ⟨q1, L', o', q2, q3, q4, (other L' fun z => by rw [z, hT] at q5; cases q5; exact q7 ts hTd).trans q5, q6, q7⟩
    · obtain ⟨o, q⟩ := hmu a m; exact dm a o q
    · obtain ⟨o', q'⟩ := h0 a o q; exact dm a o' q'
    · rw [z] at q hor
      rw [hT] at q; cases q
      rcases hor with w | ⟨o', w⟩ | w | ⟨o', w⟩
      · exact w hTc
      · rw [hT0] at w; cases w
      · exact hTm w
      · rw [hTb] at w; cases w

theorem set_lnd {fs : List Addr} {f : Option Addr} (er : ER G h₀ mu s.heap c e) (hh : ∃ oe vs T, s.heap.get? e = some oe ∧ oe.data = .fields vs ∧ vs[1]? = some (.ref T))
    (k : ∀ h', Lnd G fs h₀ mu s.heap h' c e → (f = none → ERN G h₀ mu h' c e) → Q () { s with heap := h' }) : wpAny M A (setFlight (.ref e) f) Q E s := by
  obtain ⟨oe, vs, he, hc, hd, hfl, ht⟩ := er.obj
  obtain ⟨oe', vs', T', he', hd', h1'⟩ := hh
  rw [he] at he'; cases he'
  rw [hd] at hd'; cases hd'
  rcases ht with h1 | ⟨T, oT, ts, h1, hTe, hT0, hTm, hTb, hT, hTc, hTd, h3⟩
  · rw [h1] at h1'; cases h1'
  unfold setFlight
  refine wpAny_bind (wpAny_field he hd h1 ?_)
  rw [if_pos (show (Value.ref T != Value.none) = true from by simp)]
  refine wpAny_setField hT hTd h3 ?_
  have other : ∀ b, b ≠ T → (s.heap.update T (Obj.mapFields (·.setIfInBounds 3 (f.elim Value.none fun f => rawInt f)))).get? b = s.heap.get? b := fun b hb => Heap.get?_update_other _ _ (Ne.symm hb)
  have hTd' := Obj.data_mapFields hTd (·.setIfInBounds 3 (f.elim Value.none fun f => rawInt f))
  have self := Heap.get?_update_self (Obj.mapFields (·.setIfInBounds 3 (f.elim Value.none fun f => rawInt f))) hT (Obj.isFreed_of_fields hTd')
  have he2 := (other e (Ne.symm hTe)).trans he
  have erg : ∀ N : Array Value → Prop, N (ts.setIfInBounds 3 (f.elim Value.none fun f => rawInt f)) → ERg N G h₀ mu (s.heap.update T (Obj.mapFields (·.setIfInBounds 3 (f.elim Value.none fun f => rawInt f)))) c e := fun N hN =>
    ⟨er.new, er.nmu, er.nb, oe, vs, he2, hc, hd, hfl, .inr ⟨T, _, _, h1, hTe, hT0, hTm, hTb, self, (Obj.cls_mapFields _ _).trans hTc, hTd', hN⟩⟩
  refine k _ ⟨erg _ (by simpa using h3), ⟨oe, vs, T, he2, hd, h1⟩, ⟨oe, oe, he, he2, hc, rfl, vs, hd⟩, fun a o q ne hor => ?_, fun a o q => ?_⟩ fun hf => erg _ (by rw [hf]; simp [h3])
  · have : a ≠ T := fun z => by
      rw [z] at q hor
      rw [hT] at q; cases q
      rcases hor with w | ⟨o', w⟩ | w | ⟨o', w⟩
      · exact w hTc
      · rw [hT0] at w; cases w
      · exact hTm w
      · rw [hTb] at w; cases w
    exact ⟨fun _ => (other a this).trans q, o.slots, (other a this).trans q⟩
  · by_cases z : a = T
    · rw [z]; exact ⟨_, self⟩
    · exact ⟨o, (other a z).trans q⟩

theorem land_lnd (hfr : A.frames = some (env :: outer)) (fo : FrOk G (env :: outer) mu s.heap) (hmu : ∀ a, mu a → ∃ o, s.heap.get? a = some o) (hb : G.base.StaysIn s.heap) (h0 : ∀ a o, h₀.get? a = some o → ∃ o', s.heap.get? a = some o')
    (er : ER G h₀ mu s.heap c e) (k : ∀ h', Lnd G ((env :: outer).filterMap (·.frame)) h₀ mu s.heap h' c e → ERN G h₀ mu h' c e → Q () { s with heap := h' }) :
    wpAny M A (noteFrame (.ref e) env) (fun _ s₂ => wpAny M A (setFlight (.ref e) none) Q E s₂) E s :=
  note_lnd hfr rfl fo hmu hb h0 er fun h' x => set_lnd (s := { s with heap := h' }) (fs := (env :: outer).filterMap (·.frame)) x.er x.head fun h'' y z => k h'' (x.trans y) (z rfl)
end

section
variable {G : Cfg} {ρ ρ' : Pl} {σ σ' : H} {s s' : Shared} {fs : List Addr} {h' : Heap} {c : Nat} {e : Addr} {ex : Addr → Prop} {fr : List Env} {names : List Str} {env : Env} {l : L}

noncomputable def FsOk (G : Cfg) (fs : List Addr) (mu : Addr → Prop) (h : Heap) : Prop := ∀ a ∈ fs, G.base.get? a = none ∧ ¬ mu a ∧ ∃ o, h.get? a = some o ∧ o.cls = .type "frame" ∧ ∀ vs, o.data ≠ .fields vs
theorem FrOk.fsOk {mu : Addr → Prop} {h : Heap} (fo : FrOk G fr mu h) : FsOk G (fr.filterMap (·.frame)) mu h := fun a ha => by
  obtain ⟨en, he, hf⟩ := List.mem_filterMap.mp ha
  obtain ⟨_, L, o, h1, h2, h3, h4, h5, h6⟩ := fo en he
  rw [h1] at hf; cases hf
  exact ⟨h2, h3, o, h4, h5, h6⟩

theorem Lnd.vk (x : Lnd G fs s.heap (muts ρ' σ') s'.heap h' c e) (ff : FsOk G fs (muts ρ' σ') s'.heap) : VK G.fb ρ' (muts ρ' σ') s'.heap ρ' (muts ρ' σ') h' := ⟨fun _ _ q => q, fun a o n f q v => by
  refine ⟨n, ?_⟩
  by_cases z : a = e
  · obtain ⟨o1, o2, h1, h2, h3, h4, h5⟩ := x.exc
    rw [z, h1] at q; cases q
    exact ⟨o2, z ▸ h2, .inr ⟨⟨_, h3⟩, h4, h5⟩⟩
  · have nt : o.cls ≠ .type "traceback" := by rcases v.1 with w | w | w | ⟨C, w⟩ <;> rw [w] <;> first | decide | (intro y; cases y)
    refine ⟨o, (x.keep a o q z (.inl nt)).1 fun m => ?_, .inl rfl⟩
    obtain ⟨_, _, o', q', c', _⟩ := ff a m
    rw [q] at q'; cases q'
    exact v.frame c'⟩
theorem Lnd.hr (x : Lnd G fs s.heap (muts ρ' σ') s'.heap h' c e) (ff : FsOk G fs (muts ρ' σ') s'.heap) (hr : HR G ρ' σ' s'.heap) : HR G ρ' σ' h' := by
  have vk := x.vk ff
  have same : ∀ a o, muts ρ' σ' a → s'.heap.get? a = some o → h'.get? a = some o := fun a o m q => (x.keep a o q (fun z => x.er.nmu (z ▸ m)) (.inr (.inr (.inl m)))).1 fun z => (ff a z).2.1 m
  refine ⟨fun b o q => (x.keep b o (hr.stays b o q) (fun z => by rw [z, x.er.nb] at q; cases q) (.inr (.inr (.inr ⟨o, q⟩)))).1 (fun z => by rw [(ff b z).1] at q; cases q), fun a q => let ⟨o, e'⟩ := hr.fbd a q; x.dom a o e', hr.len, fun i oi p h1 h3 => ?_, hr.new, hr.apart, hr.fbn⟩
  by_cases hd : oi = .dead
  · subst hd; trivial
  · have e1 := fun o => same p.1 o ⟨i, oi, p, h1, hd, h3, .inl rfl⟩
    have e2 := fun o => same p.2 o ⟨i, oi, p, h1, hd, h3, .inr rfl⟩
    have := hr.objs i oi p h1 h3
    cases oi with
    | list vs =>
      obtain ⟨q, o, xs, n, ho, hc, hd, hv, hz⟩ := this
      exact ⟨q, o, xs, n, e1 _ ho, hc, hd, hv.vk vk, hz⟩
    | inst c fs =>
      obtain ⟨hne, ⟨o, ho, hc⟩, m, ⟨o', es, ep, ho', hm⟩, hf⟩ := this
      exact ⟨hne, ⟨o, e1 _ ho, hc⟩, m, ⟨o', es, ep, e2 _ ho', hm⟩, fun n => (hf n).imp id fun ⟨v, y, a, b, c⟩ => ⟨v, y, a, b, c.vk vk⟩⟩
    | dict es => exact this
    | dead => trivial
theorem Lnd.out (x : Lnd G fs s.heap (muts ρ' σ') s'.heap h' c e) (ff : FsOk G fs (muts ρ' σ') s'.heap) (o : OutS ex G ρ σ s ρ' σ' s') : OutS ex G ρ σ s ρ' σ' { s' with heap := h' } := by
  refine ⟨x.hr ff o.hr, ⟨o.ext.vk.trans (x.vk ff), fun a ob q => let ⟨o', q'⟩ := o.ext.dom a ob q; x.dom a o' q', fun a ob n q g => ?_, fun a ob n g c' d => ?_⟩, o.gens, o.os⟩
  · obtain ⟨n', k1, sl, k2⟩ := o.ext.keep a ob n q g
    have ne : a ≠ e := fun z => by rw [z, x.er.new] at g; cases g
    obtain ⟨l1, sl', l2⟩ := x.keep a _ k2 ne (.inr (.inl ⟨_, g⟩))
    refine ⟨n', fun hf => ?_, sl', l2⟩
    refine (x.keep a _ (k1 hf) ne (.inr (.inl ⟨_, g⟩))).1 fun z => ?_
    obtain ⟨_, _, o', q', c', _⟩ := ff a z
    rw [k1 hf] at q'; cases q'
    exact hf c'
  · obtain ⟨n', o', g', c'', d'⟩ := o.ext.frm a ob n g c' d
    have ne : a ≠ e := fun z => by rw [z, x.er.new] at g; cases g
    obtain ⟨_, sl, l2⟩ := x.keep a _ g' ne (.inr (.inl ⟨_, g⟩))
    exact ⟨n', _, l2, c'', d'⟩
theorem Lnd.frm (x : Lnd G fs s.heap (muts ρ' σ') s'.heap h' c e) (ff : FsOk G fs (muts ρ' σ') s'.heap) (f : FR G names env l ρ' (muts ρ' σ') s'.heap) (hl : ∃ o, s'.heap.get? env.locals = some o ∧ o.cls = .type "frame") : FR G names env l ρ' (muts ρ' σ') h' := by
  refine f.vk (x.vk ff) fun a o ho q n => ⟨n, ?_⟩
  have nt : o.cls ≠ .type "traceback" ∧ (o.cls = .type "frame" ∨ o.cls = .type "cell") := by
    rcases ho with rfl | ⟨y, hy⟩
    · obtain ⟨o', q', c'⟩ := hl
      rw [q] at q'; cases q'
      exact ⟨by rw [c']; decide, .inl c'⟩
    · obtain ⟨_, _, _, _, o', q', c', _⟩ := f.cel y a hy
      rw [q] at q'; cases q'
      exact ⟨by rw [c']; decide, .inr c'⟩
  have ne : a ≠ e := fun z => by
    obtain ⟨o1, _, h1, _, h3, _⟩ := x.exc
    rw [z, h1] at q; cases q
    rcases nt.2 with w | w <;> rw [w] at h3 <;> cases h3
  obtain ⟨l1, l2⟩ := x.keep a o q ne (.inl nt.1)
  refine ⟨fun hf => l1 fun z => ?_, l2⟩
  obtain ⟨_, _, o', q', c', _⟩ := ff a z
  rw [q] at q'; cases q'
  exact hf c'
theorem Lnd.foO (x : Lnd G fs s.heap (muts ρ' σ') s'.heap h' c e) (fo : FrOk G fr (muts ρ' σ') s'.heap) : FrOk G fr (muts ρ' σ') h' := fun en hen => by
  obtain ⟨q1, L', o', q2, q3, q4, q5, q6, q7⟩ := fo en hen
  have ne : L' ≠ e := fun z => by
    obtain ⟨o1, _, h1, _, h3, _⟩ := x.exc
    rw [z, h1] at q5; cases q5
    rw [q6] at h3; cases h3
  obtain ⟨_, sl, l2⟩ := x.keep L' o' q5 ne (.inl (by rw [q6]; decide))
  exact ⟨q1, L', _, q2, q3, q4, l2, q6, q7⟩
end
end Mine.Internal
namespace Mine.Internal
open PySem PyProof.Rows PySem.W

theorem lookIn_ns {h : Heap} {d : Addr} {m : Str → Option Value} {name : Str} (hn : h.Ns d m) : ∃ o, h.get? d = some o ∧ lookIn name o = some (m name) := by
  obtain ⟨o, es, ep, ho, hd, hk, hm⟩ := hn
  refine ⟨o, ho, ?_⟩
  unfold lookIn
  rw [hd, ← hm name]
  unfold nsFind findBy
  rw [← Array.find?_toList]
  show (match es.toList.find? (·.key.isStr name) with
    | some e => some (some e.val)
    | none => if es.toList.any (·.refKey) then none else some none) = some (Option.map (·.val) (es.toList.find? (·.key.isStr name)))
  cases hf : es.toList.find? (·.key.isStr name) with
  | some e => rfl
  | none =>
    have : es.toList.any (·.refKey) = false := by
      rw [List.any_eq_false]
      intro e he
      obtain ⟨n, t, q⟩ := hk e (Array.mem_toList_iff.mp he)
      simp [DictEntry.refKey, q]
    rw [this]; rfl

theorem length_setF : ∀ (fs : List (Nat × V)) (n : Nat) (v : V), (setF fs n v).length = if (getF fs n).isSome then fs.length else fs.length + 1
  | [], n, v => by simp [setF, getF]
  | (k, w) :: r, n, v => by
    unfold setF
    split
    · rename_i q; subst q; simp [getF]
    · rename_i q
      have : (n == k) = false := by simpa using fun e : n = k => q e.symm
      have ih := length_setF r n v
      simp only [getF, List.lookup_cons, this, List.length_cons] at ih ⊢
      rw [ih]
      by_cases z : (List.lookup n r).isSome = true <;> simp [z]

theorem getF_setF_same : ∀ (fs : List (Nat × V)) (n : Nat) (v : V), getF (setF fs n v) n = some v
  | [], n, v => by simp [setF, getF]
  | (k, w) :: r, n, v => by
    unfold setF
    split
    · rename_i q; subst q; simp [getF]
    · rename_i q
      have : (n == k) = false := by simpa using fun e : n = k => q e.symm
      simpa [getF, List.lookup_cons, this] using getF_setF_same r n v
theorem getF_setF_ne : ∀ (fs : List (Nat × V)) (n k : Nat) (v : V), k ≠ n → getF (setF fs n v) k = getF fs k
  | [], n, k, v, h => by
    have : (k == n) = false := by simpa using h
    simp [setF, getF, List.lookup_cons, this]
  | (j, w) :: r, n, k, v, h => by
    unfold setF
    split
    · rename_i q; subst q
      have : (k == j) = false := by simpa using h
      simp [getF, List.lookup_cons, this]
    · simp only [getF, List.lookup_cons]
      cases k == j with
      | true => rfl
      | false => exact getF_setF_ne r n k v h

section
variable {prog : Program} {w : World} {A : Around} {E : Value → Shared → Prop} {s : Shared} {G : Cfg} {K : Frag} {P : PI} {T : Tab} {rk : Nat} {ρ : Pl} {σ : H} {env : Env} {names : List Str} {l : L}

theorem cls_of (Y : Hyp prog w G K P T rk) {c f : Nat} (h : T.init c = some f) : ∃ ci, P.cls[c]? = some ci ∧ ci.init = some f ∧ G.cls c = ci.addr ∧ ClsOk K P ci := by
  rw [Y.ti] at h
  obtain ⟨ci, h1, h2⟩ := Option.bind_eq_some_iff.mp h
  refine ⟨ci, h1, h2, ?_, Y.co c ci h1 (by rw [h2]; rfl)⟩
  rw [Y.cl]; unfold PI.clsOf; rw [h1]; rfl

theorem inst_at {i c : Nat} {fs : List (Nat × V)} {p : Addr × Addr} {h : Heap} (hr : HR G ρ σ h) (hi : σ[i]? = some (.inst c fs)) (hp : ρ[i]? = some p) :
    ∃ ox od m, InstAt h p.1 ox (G.cls c) (some od) ∧ ox.dict = some p.2 ∧ h.get? p.2 = some od ∧ NsB h p.2 m fs.length ∧ (∀ n, (getF fs n = none ∧ m (G.nm n) = none) ∨ ∃ v x, getF fs n = some v ∧ m (G.nm n) = some x ∧ VR G ρ (muts ρ σ) h v x) := by
  obtain ⟨hne, ⟨o, ho, hc, hd, hdt⟩, m, hn, hf⟩ := hr.objs i _ p hi hp
  obtain ⟨od, es, ep, hod, _⟩ := id hn
  refine ⟨o, od, m, ⟨ho, hc, by unfold notCls; rw [hdt], by rw [hd]; exact hod⟩, hd, hod, hn, hf⟩

end
end Mine.Internal
namespace Mine.Internal
open PySem PyProof.Rows PySem.W

section
variable {prog : Program} {w : World} {A : Around} {E : Value → Shared → Prop} {s : Shared} {G : Cfg} {K : Frag} {P : PI} {T : Tab} {rk : Nat} {ρ : Pl} {σ : H} {env : Env} {names : List Str} {l : L} {fr : List Env} {Q : Value → Shared → Prop}

theorem RoomB.f {A : Around} {r r' : Nat} (h : RoomB A r) (lt : r' < r) : RoomF A r' := ⟨by have := h.1; lia, by have := h.2; lia⟩

theorem fn_call {f : Nat} {fi : FnI} {vs : List V} {xs : List Value} (Y : Hyp prog w G K P T rk) (hA : RoomB A rk) (hfr : A.frames = some fr) (hf : P.fns[f]? = some fi) (hrk : fi.rk < rk) (ho : HOk fi.qt A (muts ρ σ) s.heap) (fo : FrOk G fr (muts ρ σ) s.heap) (hr : HR G ρ σ s.heap)
    (hv : VRs G ρ (muts ρ σ) s.heap vs xs) (req : Req G ρ σ s (T.F f vs σ) (VR G) Q E) : wpAny (model prog w) A (call (.ref fi.addr) xs) Q E s :=
  wpAny_call (Y.sf G.fb f fi hf hrk A fr ρ σ s vs xs _ (hA.f hrk) ho hfr fo hr hv req)

theorem FrOk.alloc {h h' : Heap} {ρ' : Pl} {mu mu' : Addr → Prop} (x : Ext ρ mu h ρ' mu' h') (fo : FrOk G fr mu h) : FrOk G fr mu' h' := fo.ext x

end
end Mine.Internal
namespace Mine.Internal
open PySem PyProof.Rows PySem.W

noncomputable def ItR (G : Cfg) (ρ : Pl) (mu : Addr → Prop) (h : Heap) (src : V) (it : Addr) (k : Nat) : Prop :=
  match src with
  | .lst vs => ∃ a, h.IsListIter it a k ∧ VR G ρ mu h (.lst vs) (.ref a)
  | .ref i => ∃ p, ρ[i]? = some p ∧ h.IsListIter it p.1 k
  | .rng lo n st => k ≤ n ∧ IsRangeIter h it (lo + st * k) ((n : Int) - k) st
  | _ => False

section
variable {prog : Program} {w : World} {A : Around} {E : Value → Shared → Prop} {s : Shared} {G : Cfg} {ρ ρ' : Pl} {σ σ' : H} {mu mu' : Addr → Prop} {h h' : Heap}

theorem ItR.notVal {src : V} {it : Addr} {k : Nat} (r : ItR G ρ mu h src it k) : ∃ o, h.get? it = some o ∧ ¬ isVal o ∧ o.cls ≠ .type "frame" := by
  unfold ItR at r
  split at r
  · obtain ⟨a, ⟨o, ho, hc, _⟩, _⟩ := r
    refine ⟨o, ho, fun v => ?_, by rw [hc]; decide⟩
    rcases v.1 with q | q | q | ⟨C, q⟩ <;> rw [hc] at q <;> revert q <;> first | decide | (intro q; cases q)
  · obtain ⟨p, _, ⟨o, ho, hc, _⟩⟩ := r
    refine ⟨o, ho, fun v => ?_, by rw [hc]; decide⟩
    rcases v.1 with q | q | q | ⟨C, q⟩ <;> rw [hc] at q <;> revert q <;> first | decide | (intro q; cases q)
  · refine ⟨_, r.2, fun v => ?_, by show Value.type "range_iterator" ≠ _; decide⟩
    rcases v.1 with q | q | q | ⟨C, q⟩ <;> revert q <;> first | (show ¬ (Value.type "range_iterator" = _); decide) | (intro q; cases q)
  · exact r.elim

theorem ItR.vk {src : V} {it : Addr} {k : Nat} (x : VK G.fb ρ mu h ρ' mu' h') (e : ∀ o, h.get? it = some o → h'.get? it = some o) (r : ItR G ρ mu h src it k) : ItR G ρ' mu' h' src it k := by
  unfold ItR at r ⊢
  split at r
  · obtain ⟨a, ⟨o, ho, hc⟩, hv⟩ := r
    exact ⟨a, ⟨o, e _ ho, hc⟩, hv.vk x⟩
  · obtain ⟨p, hp, ⟨o, ho, hc⟩⟩ := r
    exact ⟨p, x.pl _ _ hp, ⟨o, e _ ho, hc⟩⟩
  · exact ⟨r.1, e _ r.2⟩
  · exact r.elim

theorem iter_sound {src : V} {x : Value} {Q : Value → Shared → Prop} (hr : HR G ρ σ s.heap) (rv : VR G ρ (muts ρ σ) s.heap src x) (hs : ∃ r, nextOf src 0 σ = some r)
    (h : ∀ s', Out G ρ σ s ρ σ s' → ItR G ρ (muts ρ σ) s'.heap src s.heap.objs.size 0 → Q (.ref s.heap.objs.size) s') : wpAny (model prog w) A (pyIter x) Q E s := by
  obtain ⟨r0, hs⟩ := hs
  unfold nextOf at hs
  split at hs
  · cases rv with | @lst a o _ xs n ho hn hc hd hv hz =>
    refine wpAny_pyIter_list ⟨o, ho, hc, n, hd⟩ (h _ (Out.push hr) ⟨a, ⟨_, Heap.get?_push_size _ rfl, rfl, rfl⟩, ?_⟩)
    exact VR.ext (Ext.of_keeps fun _ _ e => Heap.get?_push_of_some _ e) (.lst ho hn hc hd hv hz)
  · cases rv with | rng hR hn hsm =>
    refine wpAny_pyIter_range hR hsm (h _ (Out.push hr) ⟨Nat.zero_le _, ?_⟩)
    have z : ∀ x y : Int, x + y * ((0 : Nat) : Int) = x := fun x y => by simp
    have z' : ∀ x : Int, x - ((0 : Nat) : Int) = x := fun x => by simp
    rw [z, z', Int.toNat_of_nonneg (rangeSize_nonneg _ _ _)]
    exact Heap.get?_push_size s.heap rfl
  · cases rv with | @ref i p hp =>
    split at hs
    · rename_i vs hi
      obtain ⟨_, o, xs, n, ho, hc, hd, _⟩ := hr.objs _ _ _ hi hp
      exact wpAny_pyIter_list ⟨o, ho, hc, n, hd⟩ (h _ (Out.push hr) ⟨p, hp, ⟨_, Heap.get?_push_size _ rfl, rfl, rfl⟩⟩)
    · cases hs
  · cases hs

theorem turn_it {it : Addr} {o o' : Obj} {h' : Heap} {tk : Nat} (hr : HR G ρ σ s.heap) (hn : ¬ muts ρ σ it) (hb : G.base.get? it = none) (ho : s.heap.get? it = some o) (hv : ¬ isVal o) (hf : o.cls ≠ .type "frame") (ho' : h'.get? it = some o') (hs : Heap.SameBut it s.heap h') :
    OutS (· = it) G ρ σ s ρ σ { s with heap := h', toks := tk } :=
  let X := HR.own (ex := (· = it)) hr hn hb ho (.inl hv) ho' hs rfl fun c => absurd c hf
  ⟨X.1, X.2, rfl, rfl⟩

theorem next_sound {src : V} {it : Addr} {k : Nat} {r : Option V} {Q : Option Value → Shared → Prop} (hA : A.handled = none) (hr : HR G ρ σ s.heap) (ri : ItR G ρ (muts ρ σ) s.heap src it k) (hn : ¬ muts ρ σ it) (hb : G.base.get? it = none)
    (e : nextOf src k σ = some r) (hend : r = none → ∀ h', Heap.ExtBut it s.heap h' → Q none { s with heap := h' })
    (hitem : ∀ v x s', r = some v → OutS (· = it) G ρ σ s ρ σ s' → ItR G ρ (muts ρ σ) s'.heap src it (k + 1) → VR G ρ (muts ρ σ) s'.heap v x → Q (some x) s') :
    wpAny (model prog w) A (pyNext (.ref it)) Q E s := by
  obtain ⟨oi, hoi, hnv, hnf⟩ := ri.notVal
  unfold nextOf at e
  unfold ItR at ri
  split at e
  · rename_i vs
    obtain ⟨a, hi, hl⟩ := ri
    cases id hl with | @lst _ o _ xs n ho hno hc hd hv hz =>
    have L : s.heap.IsList a xs := ⟨o, ho, hc, n, hd⟩
    cases e
    rcases hv.get k with ⟨q1, q2⟩ | ⟨v, y, q1, q2, q3⟩
    · exact wpAny_pyNext_list_end hA hi L (by simpa using q2) (hend q1)
    · refine wpAny_pyNext_list_item hi L (by simpa using q2) fun h' hi' hs => ?_
      obtain ⟨o', ho', _⟩ := id hi'
      have X := turn_it (tk := s.toks) hr hn hb hoi hnv hnf ho' hs
      exact hitem v y _ q1 X ⟨a, hi', hl.vk X.ext.vk⟩ (q3.vk X.ext.vk)
  · rename_i lo n st
    obtain ⟨hk, hi⟩ := ri
    cases e
    by_cases hlt : k < n
    · rw [if_pos hlt] at hitem
      refine wpAny_pyNext_range_item hi (by first | decide | lia) fun h' hi' hs => ?_
      have X := turn_it (tk := s.toks + 1) hr hn hb hoi hnv hnf hi' hs
      refine hitem _ _ _ rfl X ⟨hlt, ?_⟩ (.int _ _)
      have e1 : lo + st * ((k + 1 : Nat) : Int) = lo + st * (k : Int) + st := by
        rw [Int.natCast_succ, Int.mul_add]; lia
      have e2 : (n : Int) - ((k + 1 : Nat) : Int) = (n : Int) - k - 1 := by lia
      rw [e1, e2]
      exact hi'
    · rw [if_neg hlt] at hend
      exact wpAny_pyNext_range_end hA hi (by first | decide | lia) (hend rfl)
  · rename_i i
    split at e
    · rename_i vs hi'
      obtain ⟨p, hp, hi⟩ := ri
      obtain ⟨_, o, xs, n, ho, hc, hd, hv, hz, _⟩ := hr.objs _ _ _ hi' hp
      have L : s.heap.IsList p.1 xs := ⟨o, ho, hc, n, hd⟩
      cases e
      rcases hv.get k with ⟨q1, q2⟩ | ⟨v, y, q1, q2, q3⟩
      · exact wpAny_pyNext_list_end hA hi L (by simpa using q2) (hend q1)
      · refine wpAny_pyNext_list_item hi L (by simpa using q2) fun h' hi' hs => ?_
        obtain ⟨o', ho', _⟩ := id hi'
        have X := turn_it (tk := s.toks) hr hn hb hoi hnv hnf ho' hs
        exact hitem v y _ q1 X ⟨p, hp, hi'⟩ (q3.vk X.ext.vk)
    · cases e
  · cases e

theorem OutS.endBut {it : Addr} {ex : Addr → Prop} {ρ₀ : Pl} {σ₀ : H} {s₀ : Shared} {oi : Obj} {h' : Heap} (o : OutS ex G ρ₀ σ₀ s₀ ρ σ s) (hx : ex it) (h0 : s₀.heap.get? it = none) (hn : ¬ muts ρ σ it) (hb : G.base.get? it = none) (hfb : ¬ G.fb it) (hoi : s.heap.get? it = some oi) (hv : ¬ isVal oi)
    (x : Heap.ExtBut it s.heap h') : OutS ex G ρ₀ σ₀ s₀ ρ σ { s with heap := h' } ∧ VK G.fb ρ (muts ρ σ) s.heap ρ (muts ρ σ) h' := by
  have vk : VK G.fb ρ (muts ρ σ) s.heap ρ (muts ρ σ) h' := ⟨fun _ _ e => e, fun b ob n f e v => ⟨n, ob, x b ob (fun q => by rw [q, hoi] at e; cases e; exact hv v) e, .inl rfl⟩⟩
  have ne : ∀ {b : Addr} {ob : Obj}, s₀.heap.get? b = some ob → b ≠ it := fun e q => by rw [q, h0] at e; cases e
  have nm : ∀ {b : Addr}, muts ρ σ b → b ≠ it := fun m q => hn (q ▸ m)
  refine ⟨⟨⟨fun b ob e => x b ob (fun q => by rw [q, hb] at e; cases e) (o.hr.stays b ob e), fun b q => let ⟨ob, e⟩ := o.hr.fbd b q; ⟨ob, x b ob (fun z => hfb (z ▸ q)) e⟩, o.hr.len, fun i oi p h1 h3 => ?_, o.hr.new, o.hr.apart, o.hr.fbn⟩,
    ⟨o.ext.vk.trans vk, fun a ob e => let ⟨o', e'⟩ := o.ext.dom a ob e; ⟨o', x a o' (ne e) e'⟩, fun a ob n q e => ?_, fun a ob n e c d => ?_⟩, o.gens, o.os⟩, vk⟩
  · by_cases hd : oi = .dead
    · subst hd; trivial
    · have e1 := fun ob => x p.1 ob (nm ⟨i, oi, p, h1, hd, h3, .inl rfl⟩)
      have e2 := fun ob => x p.2 ob (nm ⟨i, oi, p, h1, hd, h3, .inr rfl⟩)
      have := o.hr.objs i oi p h1 h3
      cases oi with
      | list vs =>
        obtain ⟨e, o, xs, n, ho, hc, hd, hv, hz⟩ := this
        exact ⟨e, o, xs, n, e1 _ ho, hc, hd, hv.vk vk, hz⟩
      | inst c fs =>
        obtain ⟨hne, ⟨o, ho, hc⟩, m, ⟨o', es, ep, ho', hm⟩, hf⟩ := this
        exact ⟨hne, ⟨o, e1 _ ho, hc⟩, m, ⟨o', es, ep, e2 _ ho', hm⟩, fun n => (hf n).imp id fun ⟨v, y, a, b, c⟩ => ⟨v, y, a, b, c.vk vk⟩⟩
      | dict es => exact this
      | dead => trivial
  · obtain ⟨n', k1, sl, k2⟩ := o.ext.keep a ob n q e
    exact ⟨n', fun hf => x a ob (ne e) (k1 hf), sl, x a _ (ne e) k2⟩
  · obtain ⟨n', o', e', c', d'⟩ := o.ext.frm a ob n e c d
    exact ⟨n', o', x a o' (ne e) e', c', d'⟩

theorem reiter {src : V} {it : Addr} {k : Nat} {Q : Value → Shared → Prop} (ri : ItR G ρ (muts ρ σ) s.heap src it k) (h : Q (.ref it) s) : wpAny (model prog w) A (pyIter (.ref it)) Q E s := by
  unfold ItR at ri
  split at ri
  · obtain ⟨a, hi, _⟩ := ri; exact wpAny_pyIter_listiter hi h
  · obtain ⟨p, _, hi⟩ := ri; exact wpAny_pyIter_listiter hi h
  · exact wpAny_pyIter_rangeiter ri.2 h
  · exact ri.elim
end
end Mine.Internal
namespace Mine.Internal
open PySem PyProof.Rows PySem.W

structure St (prog : Program) (w : World) (K : Frag) (P : PI) (T : Tab) (rk : Nat) (v : Ev) (G : Cfg) (A : Around) (fr : List Env) (ρ : Pl) (σ : H) (s : Shared) (env : Env) (l : L) : Prop where
  Y : Hyp prog w G K P T rk
  room : RoomB A rk
  hok : HOk v.qt A (muts ρ σ) s.heap
  frm : A.frames = some fr
  fo : FrOk G fr (muts ρ σ) s.heap
  hr : HR G ρ σ s.heap
  knd : ∀ x, env.kindOf x = v.kind x
  f : FR G v.names env l ρ (muts ρ σ) s.heap
  hdf : ∃ e₀ outer, fr = e₀ :: outer ∧ env.frame = e₀.frame

section
variable {prog : Program} {w : World} {K : Frag} {P : PI} {T : Tab} {rk : Nat} {v : Ev} {G : Cfg} {A : Around} {fr : List Env} {ρ ρ' : Pl} {σ σ' : H} {s s' : Shared} {env : Env} {l : L}

theorem St.out (st : St prog w K P T rk v G A fr ρ σ s env l) (o : Out G ρ σ s ρ' σ' s') : St prog w K P T rk v G A fr ρ' σ' s' env l :=
  ⟨st.Y, st.room, st.hok.ext o.ext, st.frm, st.fo.ext o.ext, o.hr, st.knd, st.f.ext o.ext, st.hdf⟩

variable (prog w K P T rk) in
noncomputable def EOk (v : Ev) (c : CE) (e : Expr) : Prop := ∀ (G : Cfg) (A : Around) (fr : List Env) (ρ : Pl) (σ : H) (s : Shared) (env : Env) (l : L) (Q : Value → Shared → Prop) (E : Value → Shared → Prop),
  St prog w K P T rk v G A fr ρ σ s env l → Req G ρ σ s (aeval T c l σ) (VR G) Q E → wpAny (model prog w) A (eval e env) Q E s

variable (prog w K P T rk) in
noncomputable def TOk (v : Ev) (c : CE) (e : Expr) : Prop := ∀ (G : Cfg) (A : Around) (fr : List Env) (ρ : Pl) (σ : H) (s : Shared) (env : Env) (l : L) (Q : Bool → Shared → Prop) (E : Value → Shared → Prop),
  St prog w K P T rk v G A fr ρ σ s env l → Req G ρ σ s (atrue T c l σ) (fun _ _ _ b b' => b = b') Q E → wpAny (model prog w) A (isTrue e env (eval e env)) Q E s

theorem bind_assoc {α β γ : Type} (r : Res α) (f : α → H → Res β) (g : β → H → Res γ) : (r.bind f).bind g = r.bind fun a h => (f a h).bind g := by cases r <;> rfl

theorem truthy_sound {x : V} {y : Value} {Q : Bool → Shared → Prop} {E : Value → Shared → Prop} (hr : HR G ρ σ s.heap) (r : VR G ρ (muts ρ σ) s.heap x y)
    (req : Req G ρ σ s (truthy x σ) (fun _ _ _ b b' => b = b') Q E) : wpAny (model prog w) A (PySem.truthy y) Q E s := by
  unfold truthy at req
  split at req
  · cases r; exact wpAny_truthy_bool (req _ ρ s (Out.refl hr) rfl)
  · exact req.elim

variable {Q : Value → Shared → Prop} {QB : Bool → Shared → Prop} {E : Value → Shared → Prop}

theorem evs_sound {f : CE → Expr → Bool} {pos : Pos} (hf : ∀ c e, f c e = true → EOk prog w K P T rk v c e) : ∀ {cs : List CE} {es : List Expr} {ρ : Pl} {σ : H} {s : Shared} {Q : List Value → Shared → Prop},
    chkAll f cs es = true → St prog w K P T rk v G A fr ρ σ s env l → Req G ρ σ s (aevals T cs l σ) (VRs G) Q E → wpAny (model prog w) A (spliced (backTo pos (starEach es env))) Q E s
  | [], [], ρ, σ, s, Q, _, st, req => wpAny_pure (req _ ρ s (Out.refl st.hr) .nil)
  | [], _ :: _, _, _, _, _, h, _, _ => by cases h
  | _ :: _, [], _, _, _, _, h, _, _ => by cases h
  | c :: cs, e :: es, ρ, σ, s, Q, h, st, req => by
    simp only [chkAll, Bool.and_eq_true] at h
    obtain ⟨⟨h1, h2⟩, h3⟩ := h
    rw [starEach_cons h1]
    show wpAny _ _ (eval e env >>= fun v => pure [v] >>= fun here => holding here (spliced (backTo pos (starEach es env))) >>= fun r => pure (here ++ r)) _ _ _
    rw [aes_cons] at req
    refine wpAny_bind (hf c e h2 G A fr ρ σ s env l _ E st (Req.bind req fun v σ' x ρ' s' o rv req' => wpAny_bind (wpAny_pure (wpAny_bind (wpAny_holding (evs_sound hf h3 (st.out o) (Req.bind req' fun vs σ'' xs ρ'' s'' o' rvs req'' => ?_)))))))
    exact wpAny_pure (req'' _ ρ'' s'' (Out.refl o'.hr) (.cons (rv.ext o'.ext) rvs))

theorem chkAll_star {f : CE → Expr → Bool} : ∀ {cs : List CE} {es : List Expr}, chkAll f cs es = true → ∀ e ∈ es, notStar e = true
  | [], [], _, _, h => by cases h
  | [], _ :: _, h, _, _ => by cases h
  | _ :: _, [], h, _, _ => by cases h
  | c :: cs, e :: es, h, z, hz => by
    simp only [chkAll, Bool.and_eq_true] at h
    cases hz with
    | head => exact h.1.1
    | tail _ hz => exact chkAll_star h.2 z hz
noncomputable def plainTest : Expr → Bool
  | .UnaryOp .Not _ _ => false
  | .BoolOp .. => false
  | .IfExp .. => false
  | .Compare .. => false
  | _ => true
theorem isTrue_plain {e : Expr} (h : plainTest e = true) (env : Env) (m : Sem Value) : isTrue e env m = (do let v ← m; standAt e.pos; holding [v] (PySem.truthy v)) := by
  cases e with
  | UnaryOp op x p => cases op <;> first | rfl | cases h
  | _ => first | rfl | cases h

theorem TOk.plain {c : CE} {e : Expr} (h : plainTest e = true) (he : EOk prog w K P T rk v c e) : TOk prog w K P T rk v c e := fun G A fr ρ σ s env l Q E st req => by
  rw [isTrue_plain h]
  exact wpAny_bind (he G A fr ρ σ s env l _ E st (Req.bind req fun x σ' y ρ' s' o rv req' => wpAny_bind (wpAny_standAt (wpAny_holding (truthy_sound o.hr rv req')))))

theorem arm_list {f : CE → Expr → Bool} {m : Bool} {cs : List CE} {es : List Expr} {pos : Pos} (hf : ∀ c e, f c e = true → EOk prog w K P T rk v c e) (h : chkAll f cs es = true) : EOk prog w K P T rk v (.list m cs) (.List es pos) := fun G A fr ρ σ s env l Q E st req => by
  rw [ae_list] at req
  refine wpAny_List_spliced (evs_sound hf h st (Req.bind req fun vs σ' xs ρ' s' o rv req' => ?_))
  have hz : vs.length ≤ 2 ^ 20 := by
    unfold newList at req'; split at req'
    · assumption
    · exact req'.elim
  refine ⟨by rw [← rv.length, sizeLine_eq]; lia, ?_⟩
  exact newList_sound (tk := s'.toks) o.hr req' (fun _ _ e => Heap.get?_push_of_some _ e) (size_none _) (Heap.get?_push_size _ rfl) rfl rfl rfl (by simpa using rv)

theorem arm_tup {f : CE → Expr → Bool} {cs : List CE} {es : List Expr} {k : Nat} {pos : Pos} (hf : ∀ c e, f c e = true → EOk prog w K P T rk v c e) (h : chkAll f cs es = true) : EOk prog w K P T rk v (.tup cs) (.Tuple es k pos) := fun G A fr ρ σ s env l Q E st req => by
  rw [ae_tup] at req
  refine wpAny_Tuple_spliced (evs_sound hf h st (Req.bind req fun vs σ' xs ρ' s' o rv req' => ?_))
  split at req'
  · rename_i hz
    refine ⟨by rw [← rv.length, sizeLine_eq]; lia, ?_⟩
    exact req' _ ρ' _ (Out.push (tk := s'.toks) o.hr) (.tup (Heap.get?_push_size _ rfl) (not_ok o.hr (size_none _)) rfl rfl (by simpa using rv.ext (Ext.of_keeps fun _ _ e => Heap.get?_push_of_some _ e)) hz)
  · exact req'.elim

theorem arm_bin {m : Bool} {op : Bop} {a b : CE} {x y : Expr} {pos : Pos} (ha : EOk prog w K P T rk v a x) (hb : EOk prog w K P T rk v b y) : EOk prog w K P T rk v (.bin m op a b) (.BinOp x (opOf op) y pos) := fun G A fr ρ σ s env l Q E st req => by
  rw [ae_bin] at req
  refine wpAny_BinOp (ha _ _ _ _ _ _ _ _ _ _ st (Req.bind req fun v₁ σ₁ x₁ ρ₁ s₁ o₁ r₁ req₁ => hb _ _ _ _ _ _ _ _ _ _ (st.out o₁) (Req.bind req₁ fun v₂ σ₂ x₂ ρ₂ s₂ o₂ r₂ req₂ => ?_)))
  exact binop_sound o₂.hr (r₁.ext o₂.ext) r₂ req₂

theorem arm_neg {a : CE} {x : Expr} {pos : Pos} (ha : EOk prog w K P T rk v a x) : EOk prog w K P T rk v (.neg a) (.UnaryOp .USub x pos) := fun G A fr ρ σ s env l Q E st req => by
  rw [ae_neg] at req
  refine wpAny_UnaryOp (ha _ _ _ _ _ _ _ _ _ _ st (Req.bind req fun v₁ σ₁ x₁ ρ₁ s₁ o₁ r₁ req₁ => ?_))
  split at req₁
  · cases r₁; exact neg_int (req₁.here o₁.hr (.int _ _) _)
  · exact req₁.elim

theorem arm_not {a : CE} {x : Expr} {pos : Pos} (ha : EOk prog w K P T rk v a x) : EOk prog w K P T rk v (.not a) (.UnaryOp .Not x pos) := fun G A fr ρ σ s env l Q E st req => by
  rw [ae_not] at req
  refine wpAny_UnaryOp (ha _ _ _ _ _ _ _ _ _ _ st (Req.bind req fun v₁ σ₁ x₁ ρ₁ s₁ o₁ r₁ req₁ => ?_))
  refine not_value (truthy_sound o₁.hr r₁ (Req.bind req₁ fun b σ₂ b' ρ₂ s₂ o₂ e req₂ => ?_))
  cases e
  exact req₂ _ ρ₂ s₂ (Out.refl o₂.hr) (.bool _)
theorem tst_not {a : CE} {x : Expr} {pos : Pos} (ha : TOk prog w K P T rk v a x) : TOk prog w K P T rk v (.not a) (.UnaryOp .Not x pos) := fun G A fr ρ σ s env l Q E st req => by
  rw [arm_isTrue_UnaryOp]
  have e : atrue T (.not a) l σ = (atrue T a l σ).bind fun b h => .ok (!b) h := by
    unfold atrue; rw [ae_not, bind_assoc, bind_assoc]; congr 1; funext x h; rw [bind_assoc]; rfl
  rw [e] at req
  refine wpAny_bind (ha _ _ _ _ _ _ _ _ _ _ st (Req.bind req fun b σ₂ b' ρ₂ s₂ o₂ e req₂ => wpAny_pure ?_))
  cases e
  exact req₂ _ ρ₂ s₂ (Out.refl o₂.hr) rfl

theorem notMarks (op : Cop) (e : Expr) : behindInMarks (cmpOf op) e = false := by
  cases e with
  | Set a b c => cases op <;> (unfold behindInMarks cmpOf; simp)
  | _ => rfl

theorem arm_cmp {op : Cop} {a b : CE} {x y : Expr} {pos : Pos} (ha : EOk prog w K P T rk v a x) (hb : EOk prog w K P T rk v b y) : EOk prog w K P T rk v (.cmp op a b) (.Compare x [cmpOf op] [y] pos) := fun G A fr ρ σ s env l Q E st req => by
  rw [ae_cmp] at req
  refine wpAny_Compare1 (ha _ _ _ _ _ _ _ _ _ _ st (Req.bind req fun v₁ σ₁ x₁ ρ₁ s₁ o₁ r₁ req₁ => hb _ _ _ _ _ _ _ _ _ _ (st.out o₁) (Req.bind req₁ fun v₂ σ₂ x₂ ρ₂ s₂ o₂ r₂ req₂ => ?_))) (notMarks _ _)
  exact cmpop_sound (by have := st.room.2; unfold cLine; lia) o₂.hr (r₁.ext o₂.ext) r₂ req₂
theorem tst_cmp {op : Cop} {a b : CE} {x y : Expr} {pos : Pos} (ha : EOk prog w K P T rk v a x) (hb : EOk prog w K P T rk v b y) : TOk prog w K P T rk v (.cmp op a b) (.Compare x [cmpOf op] [y] pos) := fun G A fr ρ σ s env l Q E st req => by
  unfold atrue at req
  rw [ae_cmp, bind_assoc] at req
  refine wpAny_isTrue_Compare1 (ha _ _ _ _ _ _ _ _ _ _ st (Req.bind req fun v₁ σ₁ x₁ ρ₁ s₁ o₁ r₁ req₁ => ?_)) (notMarks _ _)
  rw [bind_assoc] at req₁
  refine hb _ _ _ _ _ _ _ _ _ _ (st.out o₁) (Req.bind req₁ fun v₂ σ₂ x₂ ρ₂ s₂ o₂ r₂ req₂ => ?_)
  exact cmpop_sound (by have := st.room.2; unfold cLine; lia) o₂.hr (r₁.ext o₂.ext) r₂ (Req.bind req₂ fun v₃ σ₃ x₃ ρ₃ s₃ o₃ r₃ req₃ => truthy_sound o₃.hr r₃ req₃)

theorem arm_cmp2 {o1 o2 : Cop} {a b c : CE} {x y z : Expr} {pos : Pos} (ha : EOk prog w K P T rk v a x) (hb : EOk prog w K P T rk v b y) (hc : EOk prog w K P T rk v c z) :
    EOk prog w K P T rk v (.cmp2 o1 o2 a b c) (.Compare x [cmpOf o1, cmpOf o2] [y, z] pos) := fun G A fr ρ σ s env l Q E st req => by
  rw [ae_cmp2] at req
  have hu : A.units + 64 < cLine := by have := st.room.2; unfold cLine; lia
  refine Compare_chain (ha _ _ _ _ _ _ _ _ _ _ st (Req.bind req fun v₁ σ₁ x₁ ρ₁ s₁ o₁ r₁ req₁ => chain_link (hb _ _ _ _ _ _ _ _ _ _ (st.out o₁) (Req.bind req₁ fun v₂ σ₂ x₂ ρ₂ s₂ o₂ r₂ req₂ => ?_)))) (notMarks _ _)
  refine cmpop_sound hu o₂.hr (r₁.ext o₂.ext) r₂ (Req.bind req₂ fun v₃ σ₃ x₃ ρ₃ s₃ o₃ r₃ req₃ => truthy_sound o₃.hr r₃ (Req.bind req₃ fun t σ₄ t' ρ₄ s₄ o₄ e req₄ => ?_))
  cases e
  have st₄ := (((st.out o₁).out o₂).out o₃).out o₄
  cases t with
  | false => exact req₄ _ ρ₄ s₄ (Out.refl o₄.hr) (r₃.ext o₄.ext)
  | true =>
    rw [if_pos rfl]
    refine chain_last (hc _ _ _ _ _ _ _ _ _ _ st₄ (Req.bind req₄ fun v₅ σ₅ x₅ ρ₅ s₅ o₅ r₅ req₅ => ?_))
    exact cmpop_sound hu o₅.hr (((r₂.ext o₃.ext).ext o₄.ext).ext o₅.ext) r₅ req₅

theorem tst_cmp2 {o1 o2 : Cop} {a b c : CE} {x y z : Expr} {pos : Pos} (ha : EOk prog w K P T rk v a x) (hb : EOk prog w K P T rk v b y) (hc : EOk prog w K P T rk v c z) :
    TOk prog w K P T rk v (.cmp2 o1 o2 a b c) (.Compare x [cmpOf o1, cmpOf o2] [y, z] pos) := fun G A fr ρ σ s env l Q E st req => by
  unfold atrue at req
  rw [ae_cmp2, bind_assoc] at req
  have hu : A.units + 64 < cLine := by have := st.room.2; unfold cLine; lia
  refine isTrue_chain (ha _ _ _ _ _ _ _ _ _ _ st (Req.bind req fun v₁ σ₁ x₁ ρ₁ s₁ o₁ r₁ req₁ => test_link ?_)) (notMarks _ _)
  rw [bind_assoc] at req₁
  refine hb _ _ _ _ _ _ _ _ _ _ (st.out o₁) (Req.bind req₁ fun v₂ σ₂ x₂ ρ₂ s₂ o₂ r₂ req₂ => ?_)
  rw [bind_assoc] at req₂
  refine cmpop_sound hu o₂.hr (r₁.ext o₂.ext) r₂ (Req.bind req₂ fun v₃ σ₃ x₃ ρ₃ s₃ o₃ r₃ req₃ => ?_)
  have tru : ∀ (h : H) , truthy v₃ h = .stuck ∨ ∃ b, v₃ = .bool b := fun h => by cases v₃ <;> first | exact .inr ⟨_, rfl⟩ | exact .inl rfl
  rcases tru σ₃ with q | ⟨b, rfl⟩
  · rw [q] at req₃; exact req₃.elim
  cases r₃
  have st₃ := ((st.out o₁).out o₂).out o₃
  refine wpAny_truthy_bool ?_
  cases b with
  | false => exact req₃ _ ρ₃ s₃ (Out.refl o₃.hr) rfl
  | true =>
    rw [if_pos rfl]
    have req₄ : Req G ρ₃ σ₃ s₃ (((aeval T c l σ₃).bind fun z h => cmpop o2 v₂ z h).bind truthy) (fun _ _ _ b b' => b = b') Q E := req₃
    rw [bind_assoc] at req₄
    refine test_last (hc _ _ _ _ _ _ _ _ _ _ st₃ (Req.bind req₄ fun v₅ σ₅ x₅ ρ₅ s₅ o₅ r₅ req₅ => ?_))
    exact cmpop_sound hu o₅.hr ((r₂.ext o₃.ext).ext o₅.ext) r₅ (Req.bind req₅ fun v₆ σ₆ x₆ ρ₆ s₆ o₆ r₆ req₆ => truthy_sound o₆.hr r₆ req₆)

noncomputable def stops (op : BoolOp) (t : Bool) : Bool := match op with
  | .And => !t
  | .Or => t
theorem ae_bo {op : BoolOp} {a b : CE} : aeval T (bo op a b) l σ = (aeval T a l σ).bind fun x h => (truthy x h).bind fun t h => if stops op t then .ok x h else aeval T b l h := by
  cases op with
  | And => exact ae_and.trans (congrArg _ (funext fun x => funext fun h => congrArg _ (funext fun t => funext fun h => by cases t <;> rfl)))
  | Or => exact ae_or.trans (congrArg _ (funext fun x => funext fun h => congrArg _ (funext fun t => funext fun h => by cases t <;> rfl)))
theorem arm_bool {f : CE → Expr → Bool} {op : BoolOp} {pos : Pos} (hf : ∀ c e, f c e = true → EOk prog w K P T rk v c e) : ∀ {es : List Expr} {c : CE} {ρ : Pl} {σ : H} {s : Shared},
    chkBool f op es c = true → St prog w K P T rk v G A fr ρ σ s env l → Req G ρ σ s (aeval T c l σ) (VR G) Q E → wpAny (model prog w) A (boolOp pos op (evalEach es env)) Q E s
  | [], _, _, _, _, h, _, _ => Bool.noConfusion h
  | e :: es, c, ρ, σ, s, h, st, req => by
    rcases Bool.or_eq_true_iff.mp h with h | h
    · rw [List.isEmpty_iff.mp (and_of h).1]
      exact hf c e (and_of h).2 _ _ _ _ _ _ _ _ _ _ st req
    · cases es with
      | nil => exact isBo_el (fun _ => wpAny _ _ _ _ _ _) h fun a b h => Bool.noConfusion (and_of h).2
      | cons e' es =>
        refine isBo_el (fun c => Req G ρ σ s (aeval T c l σ) (VR G) Q E → wpAny (model prog w) A (boolOp pos op (evalEach (e :: e' :: es) env)) Q E s) h (fun a b h req => ?_) req
        rw [ae_bo] at req
        show wpAny _ _ (do
          let v ← eval e env
          standAt pos
          let t ← holding [v] (PySem.truthy v)
          match op, t with
          | .And, false | .Or, true => pure v
          | _, _ => boolOp pos op (evalEach (e' :: es) env)) _ _ _
        refine wpAny_bind (hf a e (and_of h).1 _ _ _ _ _ _ _ _ _ _ st (Req.bind req fun v₁ σ₁ x₁ ρ₁ s₁ o₁ r₁ req₁ => wpAny_bind (wpAny_standAt (wpAny_bind (wpAny_holding (truthy_sound o₁.hr r₁ (Req.bind req₁ fun t σ₂ t' ρ₂ s₂ o₂ q req₂ => ?_)))))))
        cases q
        cases hs : stops op t with
        | true => rw [hs, if_pos rfl] at req₂; cases op <;> cases t <;> first | exact wpAny_pure (req₂ _ ρ₂ s₂ (Out.refl o₂.hr) (r₁.ext o₂.ext)) | cases hs
        | false =>
          rw [hs] at req₂
          have z := arm_bool (pos := pos) hf (and_of h).2 ((st.out o₁).out o₂) req₂
          cases op <;> cases t <;> first | exact z | cases hs

theorem atrue_bo {op : BoolOp} {a b : CE} : atrue T (bo op a b) l σ = (atrue T a l σ).bind fun c h => if stops op c then .ok c h else atrue T b l h := by
  unfold atrue
  rw [ae_bo, bind_assoc, bind_assoc]
  congr 1; funext x h; rw [bind_assoc]
  cases x <;> first | rfl | skip
  rename_i c; cases op <;> cases c <;> rfl

theorem tst_bool {f : CE → Expr → Bool} {op : BoolOp} (hf : ∀ c e, f c e = true → TOk prog w K P T rk v c e) : ∀ {es : List Expr} {c : CE} {ρ : Pl} {σ : H} {s : Shared},
    chkBool f op es c = true → St prog w K P T rk v G A fr ρ σ s env l → Req G ρ σ s (atrue T c l σ) (fun _ _ _ b b' => b = b') QB E → wpAny (model prog w) A (allTrue op es env) QB E s
  | [], _, _, _, _, h, _, _ => Bool.noConfusion h
  | e :: es, c, ρ, σ, s, h, st, req => by
    rw [arm_allTrue_cons]
    rcases Bool.or_eq_true_iff.mp h with h | h
    · rw [List.isEmpty_iff.mp (and_of h).1]
      refine wpAny_bind (wpAny_mono (hf c e (and_of h).2 _ _ _ _ _ _ _ _ _ _ st req) (fun t s' fin => ?_) fun _ _ e => e)
      cases op <;> cases t <;> exact wpAny_pure fin
    · refine isBo_el (fun c => Req G ρ σ s (atrue T c l σ) (fun _ _ _ b b' => b = b') QB E → wpAny (model prog w) A _ QB E s) h (fun a b h req => ?_) req
      cases es with
      | nil => exact Bool.noConfusion (and_of h).2
      | cons e' es =>
        rw [atrue_bo] at req
        refine wpAny_bind (hf a e (and_of h).1 _ _ _ _ _ _ _ _ _ _ st (Req.bind req fun t σ₂ t' ρ₂ s₂ o₂ q req₂ => ?_))
        cases q
        cases hs : stops op t with
        | true => rw [hs, if_pos rfl] at req₂; cases op <;> cases t <;> first | exact wpAny_pure (req₂ _ ρ₂ s₂ (Out.refl o₂.hr) rfl) | cases hs
        | false =>
          rw [hs] at req₂
          have z := tst_bool hf (and_of h).2 (st.out o₂) req₂
          cases op <;> cases t <;> first | exact z | cases hs

theorem arm_var {x : Str} {j : Nat} {pos : Pos} (h : v.var x j = true) : EOk prog w K P T rk v (.var j) (.Name x pos) := fun G A fr ρ σ s env l Q E st req => by
  unfold Ev.var at h
  simp only [Bool.and_eq_true, Bool.or_eq_true, beq_iff_eq, decide_eq_true_eq, bne_iff_ne] at h
  obtain ⟨⟨⟨h1, h2⟩, h3⟩, h4⟩ := h
  rw [ae_var] at req
  split at req
  · rename_i vv hl
    refine var_sound st.f (by rw [st.knd]; exact h1) (by rw [h2]; exact hl) (beq_eq_false_iff_ne.mpr h4) fun y r => req _ ρ s (Out.refl st.hr) r
  · exact req.elim

theorem glob_of {x : Str} (st : St prog w K P T rk v G A fr ρ σ s env l) (h : v.glob x = true) : env.kindOf x = some .globalImplicit ∧ (x == ("__debug__" : Str)) = false := by
  unfold Ev.glob at h
  simp only [Bool.and_eq_true, beq_iff_eq, bne_iff_ne] at h
  exact ⟨by rw [st.knd]; exact h.1, beq_eq_false_iff_ne.mpr h.2⟩

theorem arm_gint {x : Str} {i : Int} {pos : Pos} (h1 : v.glob x = true) (h2 : isInt i (nsIn K mainGlobals x) = true) : EOk prog w K P T rk v (.int i) (.Name x pos) := fun G A fr ρ σ s env l Q E st req => by
  obtain ⟨g1, g2⟩ := glob_of st h1
  obtain ⟨o, e, h3⟩ := o1_of h2
  obtain ⟨y, rfl, h4⟩ := o1_of h3
  rw [ae_int] at req
  exact vInt_el (fun y => nsIn K mainGlobals x = some (some y) → _) h4 (fun i' t h5 e => by
    rw [eq_of_beq h5] at req
    exact glob_load st.Y.W st.hr st.f g1 g2 e (req _ ρ s (Out.refl st.hr) (.int _ _))) e

theorem arm_none {k : Nat} {pos : Pos} : EOk prog w K P T rk v .none (.Constant .none k pos) := fun G A fr ρ σ s env l Q E st req => by
  rw [ae_none] at req; exact wpAny_pure (req _ ρ s (Out.refl st.hr) .none)
theorem arm_boolc {b : Bool} {k : Nat} {pos : Pos} : EOk prog w K P T rk v (.bool b) (.Constant (.bool b) k pos) := fun G A fr ρ σ s env l Q E st req => by
  rw [ae_boolc] at req; exact wpAny_pure (req _ ρ s (Out.refl st.hr) (.bool _))
theorem arm_int {i : Int} {k : Nat} {pos : Pos} : EOk prog w K P T rk v (.int i) (.Constant (.int i) k pos) := fun G A fr ρ σ s env l Q E st req => by
  rw [ae_int] at req; exact wpAny_mkInt (req.here st.hr (.int _ _) _)
theorem arm_str {x : Str} {k : Nat} {pos : Pos} (h : PyData.strOk x = true) : EOk prog w K P T rk v (.str x) (.Constant (.str x) k pos) := fun G A fr ρ σ s env l Q E st req => by
  rw [ae_str] at req; exact wpAny_mkText (req.here st.hr (.str _ _ h) _)

theorem arm_sub {a i : CE} {x y : Expr} {pos : Pos} (h : notSlice y = true) (ha : EOk prog w K P T rk v a x) (hi : EOk prog w K P T rk v i y) : EOk prog w K P T rk v (.sub a i) (.Subscript x y pos) := fun G A fr ρ σ s env l Q E st req => by
  rw [ae_sub] at req
  show wpAny _ _ (eval x env >>= fun o => holding [o] (eval y env) >>= fun i => standAt pos >>= fun _ => subscriptTail x y o i) _ _ _
  refine wpAny_bind (ha _ _ _ _ _ _ _ _ _ _ st (Req.bind req fun v₁ σ₁ x₁ ρ₁ s₁ o₁ r₁ req₁ => wpAny_bind (wpAny_holding (hi _ _ _ _ _ _ _ _ _ _ (st.out o₁) (Req.bind req₁ fun v₂ σ₂ x₂ ρ₂ s₂ o₂ r₂ req₂ => wpAny_bind (wpAny_standAt ?_))))))
  refine subop_sound (fun o i => ?_) o₂.hr (r₁.ext o₂.ext) r₂ req₂
  unfold subscripted
  cases y <;> first | rfl | cases h

theorem opt_sound {f : CE → Expr → Bool} {c : CE} {e : Option Expr} (hf : ∀ c e, f c e = true → EOk prog w K P T rk v c e) (h : chkOpt f c e = true) (st : St prog w K P T rk v G A fr ρ σ s env l) (req : Req G ρ σ s (aeval T c l σ) (VR G) Q E) :
    wpAny (model prog w) A (valueOrNone (evalOpt e env)) Q E s := by
  cases e with
  | none =>
    cases c <;> first | cases h | skip
    rw [ae_none] at req
    exact wpAny_pure (req _ ρ s (Out.refl st.hr) .none)
  | some e => exact hf c e (by cases c <;> exact h) _ _ _ _ _ _ _ _ _ _ st req

theorem arm_slice {f : CE → Expr → Bool} {m : Bool} {a lo hi : CE} {x : Expr} {l' u' : Option Expr} {p pos : Pos} (hf : ∀ c e, f c e = true → EOk prog w K P T rk v c e) (ha : EOk prog w K P T rk v a x) (hl : chkOpt f lo l' = true) (hu : chkOpt f hi u' = true) :
    EOk prog w K P T rk v (.slice m a lo hi) (.Subscript x (.Slice l' u' none p) pos) := fun G A fr ρ σ s env l Q E st req => by
  rw [ae_slice] at req
  show wpAny _ _ (eval x env >>= fun o => holding [o] (eval (.Slice l' u' none p) env) >>= fun i => standAt pos >>= fun _ => subscriptTail x (.Slice l' u' none p) o i) _ _ _
  refine wpAny_bind (ha _ _ _ _ _ _ _ _ _ _ st (Req.bind req fun v₁ σ₁ x₁ ρ₁ s₁ o₁ r₁ req₁ => wpAny_bind (wpAny_holding ?_)))
  rw [arm_eval_Slice]
  refine wpAny_bind (opt_sound hf hl (st.out o₁) (Req.bind req₁ fun v₂ σ₂ x₂ ρ₂ s₂ o₂ r₂ req₂ => wpAny_bind (wpAny_holding (opt_sound hf hu ((st.out o₁).out o₂) (Req.bind req₂ fun v₃ σ₃ x₃ ρ₃ s₃ o₃ r₃ req₃ => ?_)))))
  refine wpAny_bind (wpAny_holding (wpAny_pure ?_))
  refine wpAny_mono (sliceop_sound (value := x) (pl := p) (lo' := l') (hi' := u') o₃.hr ((r₁.ext o₂.ext).ext o₃.ext) (r₂.ext o₃.ext) r₃ req₃) (fun i s' h => wpAny_bind (wpAny_standAt h)) fun _ _ e => e

theorem base_call0 {x : Expr} {attr : Str} {m : Sem Value} (h : notCall0 x = true) : attributeBase x attr env m = m := by
  unfold attributeBase
  cases x <;> first | rfl | skip
  rename_i f args kw pos
  cases args <;> first | cases h | skip
  cases f <;> rfl

theorem machine {f : Value} (hf : ∀ a, f ≠ .ref a) : ∀ s' : Shared, G.base.StaysIn s'.heap → ∃ k, (k = Keeper.frame ∨ k = Keeper.machine ∨ k = Keeper.boundFrame) ∧ Looks (model prog w) s'.heap (keeperOf f) k := fun s' _ => by
  refine ⟨.machine, .inr (.inl rfl), ?_⟩
  have e : keeperOf f = pure .machine := by unfold keeperOf; cases f <;> first | rfl | exact absurd rfl (hf _)
  rw [e]; exact .now

theorem keeper (st : St prog w K P T rk v G A fr ρ σ s env l) {f : Value} (hf : keepIn K f = true) : ∀ s' : Shared, G.base.StaysIn s'.heap → ∃ k, (k = Keeper.frame ∨ k = Keeper.machine ∨ k = Keeper.boundFrame) ∧ Looks (model prog w) s'.heap (keeperOf f) k :=
  fun s' h => keeps_K hf s'.heap (st.Y.W.X.keeps h)

theorem arm_call {f : CE → Expr → Bool} {i : Nat} {fi : FnI} {as : List CE} {args : List Expr} {x : Str} {p pos : Pos} (hf : ∀ c e, f c e = true → EOk prog w K P T rk v c e) (h1 : v.glob x = true) (h2 : P.fns[i]? = some fi) (h3 : nsIn K mainGlobals x = some (some (.ref fi.addr))) (h4 : fi.rk < rk) (h4' : v.qt ≤ fi.qt) (h5 : chkAll f as args = true) :
    EOk prog w K P T rk v (.call i as) (.Call (.Name x p) args [] pos) := fun G A fr ρ σ s env l Q E st req => by
  rw [ae_call] at req
  obtain ⟨g1, g2⟩ := glob_of st h1
  refine Call_Name rfl (glob_load st.Y.W st.hr st.f g1 g2 h3 (callWith_args (chkAll_star h5) (keeper st (st.Y.fk i fi h2)) (evs_sound hf h5 st (Req.bind req fun vs σ₁ xs ρ₁ s₁ o₁ rv req₁ => ⟨o₁.hr.stays, ?_⟩))))
  exact fn_call st.Y st.room st.frm h2 h4 ((st.hok.ext o₁.ext).le h4') (st.fo.ext o₁.ext) o₁.hr rv req₁

theorem prim_load {x : Str} {pos : Pos} {val : Value} (st : St prog w K P T rk v G A fr ρ σ s env l) (h1 : v.glob x = true) (h2 : nsIn K mainGlobals x = some none) (hv : bootBuiltins x = some val) (hn : x ≠ "__name__") (h : Q val s) :
    wpAny (model prog w) A (eval (.Name x pos) env) Q E s :=
  let ⟨g1, g2⟩ := glob_of st h1
  builtin_load st.Y.W st.hr st.f g1 g2 h2 hv hn h

theorem primName_boot (p : Prim) : bootBuiltins (primName p) = some (primVal p) ∧ primName p ≠ "__name__" := by
  cases p
  · exact ⟨Boot.«len», by decide⟩
  · exact ⟨Boot.«range», by decide⟩
  · exact ⟨Boot.«list», fun h => absurd (show ("list" : Str) = "__name__" from h) (by decide)⟩
  · exact ⟨Boot.«max», by decide⟩
  · exact ⟨Boot.«min», by decide⟩
  · exact ⟨Boot.«abs», by decide⟩
  · exact ⟨Boot.«int», by decide⟩
theorem tyName_boot {t : Ty} {nm : Str} (h : tyName t = some nm) : bootBuiltins nm = some (tyVal G t) ∧ nm ≠ "__name__" ∧ (∀ c, t ≠ .cls c) := by
  cases t <;> cases h
  · exact ⟨Boot.«int», by decide, fun _ e => nomatch e⟩
  · exact ⟨Boot.«bool», by decide, fun _ e => nomatch e⟩
  · exact ⟨Boot.«str», by decide, fun _ e => nomatch e⟩
  · exact ⟨Boot.«list», by decide, fun _ e => nomatch e⟩
  · exact ⟨Boot.«tuple», by decide, fun _ e => nomatch e⟩
  · exact ⟨Boot.«ValueError», by decide, fun _ e => nomatch e⟩

theorem arm_prim {f : CE → Expr → Bool} {p : Prim} {as : List CE} {args : List Expr} {x : Str} {px pos : Pos} (hf : ∀ c e, f c e = true → EOk prog w K P T rk v c e) (hq : v.qt = 0 ∨ notList p = true) (h0 : x = primName p) (h1 : v.glob x = true) (h2 : nsIn K mainGlobals x = some none) (h5 : chkAll f as args = true) :
    EOk prog w K P T rk v (.prim p as) (.Call (.Name x px) args [] pos) := fun G A fr ρ σ s env l Q E st req => by
  rw [ae_prim] at req
  subst h0
  obtain ⟨hb, hn⟩ := primName_boot p
  refine Call_Name rfl (prim_load st h1 h2 hb hn (callWith_args (G := G) (chkAll_star h5) (machine (by cases p <;> exact fun _ e => nomatch e)) (evs_sound hf h5 st (Req.bind req fun vs σ₁ xs ρ₁ s₁ o₁ rv req₁ => ⟨o₁.hr.stays, ?_⟩))))
  exact primop_sound (hq.imp st.hok.none id) o₁.hr rv req₁

theorem isx_sound {a : V} {x : Value} {t : Ty} (Y : Hyp prog w G K P T rk) (hr : HR G ρ σ s.heap) (ra : VR G ρ (muts ρ σ) s.heap a x) (ht : t = .verr ∨ ∃ d, t = .cls d ∧ d < P.cls.length ∧ clsIs K (P.clsOf d) = true) (req : Req G ρ σ s (isiop T a t σ) (VR G) Q E) :
    wpAny (model prog w) A (call (.builtin "isinstance") [x, tyVal G t]) Q E s := by
  have X := Y.W.here hr
  cases ra with
  | @exc e o c ho hn hc hd =>
    have hcl : o.cls = .ref (P.clsOf c) := by rw [← Y.cl]; exact hc
    rcases ht with rfl | ⟨d, rfl, hd, hi⟩
    · obtain ⟨m, hm, req⟩ := some1_of (show Req G ρ σ s (some1 (T.mro c) fun _ => .ok (.bool true) σ) (VR G) Q E from req)
      exact isx_ve X ho hcl (Y.ts c m hm).1 (req.here hr (.bool _) _)
    · obtain ⟨m, hm, req⟩ := some1_of (show Req G ρ σ s (some1 (T.mro c) fun m => .ok (.bool (m.contains d)) σ) (VR G) Q E from req)
      obtain ⟨q1, q2⟩ := Y.ts c m hm
      have q3 := q2 d hd
      have q1' := q1
      unfold excFull at q1'
      simp only [Bool.and_eq_true, beq_iff_eq] at q1'
      show wpAny _ _ (call _ [_, .ref (G.cls d)]) _ _ _
      rw [Y.cl]
      cases hb : m.contains d with
      | true =>
        rw [hb] at req q3
        have lt : ∀ M, Looks M s.heap (typeOf (.ref e)) (.ref (P.clsOf c)) := fun M => hcl ▸ (Looks.ld ho).andThen .now
        refine isi_call X lt ?_ (by intro q; cases q) (req.here hr (.bool _) _)
        unfold isIn
        unfold clsIs at hi
        rw [q3, hi]; simp
      | false =>
        rw [hb] at req q3
        refine isx_not X ho hcl q1 q1'.2.2.2.2.2.2.2 hi q3 (fun z => ?_) (req.here hr (.bool _) _)
        rw [← z, q1'.2.2.2.2.2.2.1] at q3; cases q3
  | _ =>
    rcases ht with rfl | ⟨d, rfl, _⟩
    · exact req.elim
    · exact req.elim

theorem arm_isi {a : CE} {t : Ty} {f x : Str} {e : Expr} {pf px pos : Pos} (h0 : f = ("isinstance" : Str)) (h1 : v.glob f = true) (h2 : nsIn K mainGlobals f = some none) (h3 : notStar e = true) (he : EOk prog w K P T rk v a e) (h4 : v.glob x = true)
    (h5 : (∃ nm, tyName t = some nm ∧ x = nm ∧ nsIn K mainGlobals x = some none) ∨ ∃ d, t = .cls d ∧ isCls P K x d = true ∧ clsIs K (P.clsOf d) = true) : EOk prog w K P T rk v (.isi a t) (.Call (.Name f pf) [e, .Name x px] [] pos) := fun G A fr ρ σ s env l Q E st req => by
  rw [ae_isi] at req
  subst h0
  refine Call_Name rfl (prim_load st h1 h2 Boot.«isinstance» (by decide) (callWith_args (G := G) (fun z hz => ?_) (machine (fun _ e => nomatch e)) ?_))
  · simp only [List.mem_cons, List.not_mem_nil, or_false] at hz
    rcases hz with rfl | rfl
    · exact h3
    · rfl
  · rw [starEach_cons h3]
    show wpAny _ _ (eval e env >>= fun v => pure [v] >>= fun here => holding here (eval (.Name x px) env >>= fun v => pure [v] >>= fun here => holding here (pure []) >>= fun r => pure (here ++ r)) >>= fun r => pure (here ++ r)) _ _ _
    refine wpAny_bind (he G A fr ρ σ s env l _ E st (Req.bind req fun v σ' y ρ' s' o rv req' => wpAny_bind (wpAny_pure (wpAny_bind (wpAny_holding (wpAny_bind ?_))))))
    rcases h5 with ⟨nm, h5, h6, h7⟩ | ⟨d, rfl, h6, h7⟩
    · subst h6
      obtain ⟨hb, hn, hc⟩ := tyName_boot (G := G) h5
      refine prim_load (st.out o) h4 h7 hb hn ?_
      refine wpAny_bind (wpAny_pure (wpAny_bind (wpAny_holding (wpAny_pure (wpAny_pure (wpAny_pure ⟨o.hr.stays, ?_⟩))))))
      by_cases hv : t = .verr
      · exact isx_sound st.Y o.hr rv (.inl hv) req'
      · exact isiop_sound o.hr rv hc hv req'
    · unfold isCls at h6
      split at h6
      case h_2 => cases h6
      rename_i ci hci
      obtain ⟨g1, g2⟩ := glob_of st h4
      refine glob_load st.Y.W o.hr (st.out o).f g1 g2 (beq_iff_eq.mp h6) ?_
      refine wpAny_bind (wpAny_pure (wpAny_bind (wpAny_holding (wpAny_pure (wpAny_pure (wpAny_pure ⟨o.hr.stays, ?_⟩))))))
      have hC : P.clsOf d = ci.addr := by unfold PI.clsOf; rw [hci]; rfl
      have := isx_sound (A := A) st.Y o.hr rv (.inr ⟨d, rfl, (List.getElem?_eq_some_iff.mp hci).1, h7⟩) req'
      rw [show tyVal G (.cls d) = .ref ci.addr from by rw [← hC, ← st.Y.cl]; rfl] at this
      exact this

theorem few {args : List Expr} {pos : Pos} (hs : ∀ e ∈ args, notStar e = true) (hl : args.length < 30) : ((backTo pos (starEach args env)).all (fun x => !x.1) && (backToKw pos (keywordEach [] env)).all (fun x => x.1.isSome)
      && decide (args.length + ([] : List Keyword).length + (if ([] : List Keyword).isEmpty then 0 else 1) < 30)) = true := by
  have h1 : (backTo pos (starEach args env)).all (fun x => !x.1) = true := by
    induction args with
    | nil => rfl
    | cons e es ih =>
      rw [starEach_cons (hs e (.head _))]
      exact ih (fun z hz => hs z (.tail _ hz)) (by simp at hl; lia)
  rw [h1]
  simp [backToKw, keywordEach, hl]

theorem arm_join {sep : Str} {a : CE} {k : Nat} {s' name : Str} {e : Expr} {ps apos pos : Pos} (h0 : name = ("join" : Str)) (h1 : (apos.endLine == pos.line) = true) (h2 : s' = sep) (h3 : PyData.strOk sep = true) (h4 : notStar e = true) (he : EOk prog w K P T rk v a e) :
    EOk prog w K P T rk v (.join sep a) (.Call (.Attribute (.Constant (.str s') k ps) name apos) [e] [] pos) := fun G A fr ρ σ s env l Q E st req => by
  rw [ae_join] at req
  subst h0 h2
  have hs : ∀ z ∈ [e], notStar z = true := fun z hz => by simp at hz; exact hz ▸ h4
  refine wpAny_Call_method_lateS (base_call0 rfl) (few hs (by simp)) h1 (wpAny_mkText ⟨"str", "str.join", F.plainAttrs_str, F.slot_str_join, F.type_str_join, typeIs_str _ _ _, (fun _ e => nomatch e), ?_⟩)
  have st' : St prog w K P T rk v G A fr ρ σ { s with toks := s.toks + 1 } env l := ⟨st.Y, st.room, st.hok, st.frm, st.fo, st.hr, st.knd, st.f, st.hdf⟩
  have req₀ := Req.step (s := s) (s' := { s with toks := s.toks + 1 }) ⟨st.hr, Ext.refl .., rfl, rfl⟩ req
  refine callWith_args (G := G) hs (machine (fun _ e => nomatch e)) ?_
  rw [starEach_cons h4]
  show wpAny _ _ (eval e env >>= fun v => pure [v] >>= fun here => holding here (pure []) >>= fun r => pure (here ++ r)) _ _ _
  refine wpAny_bind (he G A fr ρ σ _ env l _ E st' (Req.bind req₀ fun v σ₁ y ρ₁ s₁ o rv req₁ => wpAny_bind (wpAny_pure (wpAny_bind (wpAny_holding (wpAny_pure (wpAny_pure ⟨o.hr.stays, ?_⟩)))))))
  exact joinop_sound h3 o.hr rv req₁

theorem arm_append {o x : CE} {name : Str} {eo e : Expr} {apos pos : Pos} (h0 : name = ("append" : Str)) (h1 : (apos.endLine == pos.line) = true) (h2 : notCall0 eo = true) (h4 : notStar e = true) (ho : EOk prog w K P T rk v o eo) (he : EOk prog w K P T rk v x e) :
    EOk prog w K P T rk v (.append o x) (.Call (.Attribute eo name apos) [e] [] pos) := fun G A fr ρ σ s env l Q E st req => by
  rw [ae_append] at req
  subst h0
  have hs : ∀ z ∈ [e], notStar z = true := fun z hz => by simp at hz; exact hz ▸ h4
  refine wpAny_Call_method_lateS (base_call0 h2) (few hs (by simp)) h1 (ho G A fr ρ σ s env l _ E st (Req.bind req fun v₁ σ₁ x₁ ρ₁ s₁ o₁ r₁ req₁ => ?_))
  split at req₁
  case isFalse => exact req₁.elim
  rename_i live
  have fin : wpAny (model prog w) A (callWith pos (.builtin "list.append") [x₁] (backTo pos (starEach [e] env)) []) Q E s₁ := by
    refine callWith_args (G := G) hs (machine (fun _ e => nomatch e)) ?_
    rw [starEach_cons h4]
    show wpAny _ _ (eval e env >>= fun v => pure [v] >>= fun here => holding here (pure []) >>= fun r => pure (here ++ r)) _ _ _
    refine wpAny_bind (he G A fr ρ₁ σ₁ _ env l _ E (st.out o₁) (Req.bind req₁ fun v σ₂ y ρ₂ s₂ o₂ rv req₂ => wpAny_bind (wpAny_pure (wpAny_bind (wpAny_holding (wpAny_pure (wpAny_pure ⟨o₂.hr.stays, ?_⟩)))))))
    exact appendop_sound o₂.hr (r₁.ext o₂.ext) rv req₂
  unfold isLive at live
  split at live
  · cases r₁ with | @ref _ p hp =>
    split at live
    · rename_i vs hi
      obtain ⟨_, ob, xs, n, hob, hc, hd, _, _, hdn⟩ := o₁.hr.objs _ _ _ hi hp
      refine ⟨"list", "list.append", F.plainAttrs_list, slot_list_append, F.type_list_append, ⟨ob, hob, hc⟩, fun a e => ?_, fin⟩
      cases e
      exact ⟨ob, hob, hdn⟩
    · cases live
  · cases live

end
end Mine.Internal
namespace Mine.Internal
open PySem PyProof.Rows PySem.W

noncomputable def Cfg.ban (G : Cfg) (D : Addr) : Cfg := { G with fb := fun a => G.fb a ∨ a = D }

section
variable {G : Cfg} {ρ ρ' : Pl} {σ σ' : H} {mu mu' : Addr → Prop} {h h' : Heap} {D : Addr}
theorem VR.ban (hD : h.get? D = Option.none) {v : V} {y : Value} (r : VR G ρ mu h v y) : VR (G.ban D) ρ mu h v y :=
  VR.gen (G := G) (G' := G.ban D) (q := False) (n := 0) rfl (fun a o n e _ => ⟨(fun q => q.elim (fun q => n (.inl q)) fun q => q.elim (fun q => n (.inr q)) fun q => by rw [q, hD] at e; cases e), o, e, .inl rfl⟩) (fun _ _ _ e => e) r False.elim
theorem VRs.ban (hD : h.get? D = none) {vs : List V} {ys : List Value} (r : VRs G ρ mu h vs ys) : VRs (G.ban D) ρ mu h vs ys := r.gen (q := False) (n := 0) (fun r _ => r.ban hD) False.elim
theorem VR.unban {v : V} {y : Value} (r : VR (G.ban D) ρ mu h v y) : VR G ρ mu h v y :=
  VR.gen (G := G.ban D) (G' := G) (q := False) (n := 0) rfl (fun a o n e _ => ⟨fun q => n (q.elim .inl fun q => .inr (.inl q)), o, e, .inl rfl⟩) (fun _ _ _ e => e) r False.elim
theorem VRs.unban {vs : List V} {ys : List Value} (r : VRs (G.ban D) ρ mu h vs ys) : VRs G ρ mu h vs ys := r.gen (q := False) (n := 0) (fun r _ => r.unban) False.elim
theorem OR.ban {p : Addr × Addr} {o : O} (hD : h.get? D = none) (r : OR G ρ mu h p o) : OR (G.ban D) ρ mu h p o := by
  cases o with
  | list vs =>
    obtain ⟨e, o, xs, n, ho, hc, hd, hv, hz⟩ := r
    exact ⟨e, o, xs, n, ho, hc, hd, hv.ban hD, hz⟩
  | inst c fs =>
    obtain ⟨hne, ho, m, hm, hf⟩ := r
    exact ⟨hne, ho, m, hm, fun n => (hf n).imp id fun ⟨v, y, a, b, c⟩ => ⟨v, y, a, b, c.ban hD⟩⟩
  | dict es => exact r
  | dead => trivial
theorem OR.unban {p : Addr × Addr} {o : O} (r : OR (G.ban D) ρ mu h p o) : OR G ρ mu h p o := by
  cases o with
  | list vs =>
    obtain ⟨e, o, xs, n, ho, hc, hd, hv, hz⟩ := r
    exact ⟨e, o, xs, n, ho, hc, hd, hv.unban, hz⟩
  | inst c fs =>
    obtain ⟨hne, ho, m, hm, hf⟩ := r
    exact ⟨hne, ho, m, hm, fun n => (hf n).imp id fun ⟨v, y, a, b, c⟩ => ⟨v, y, a, b, c.unban⟩⟩
  | dict es => exact r
  | dead => trivial
theorem HR.ban (hr : HR G ρ σ h) (hD : h.get? D = none) (k : ∀ b o, h.get? b = some o → h'.get? b = some o) (hD' : ∃ o, h'.get? D = some o) : HR (G.ban D) ρ σ h' :=
  ⟨fun b o e => k b o (hr.stays b o e), fun a q => q.elim (fun q => let ⟨o, e⟩ := hr.fbd a q; ⟨o, k a o e⟩) fun q => q ▸ hD', hr.len,
    fun i o p a b => OR.ext (Ext.of_keeps k) (fun _ => k _ _) (fun _ => k _ _) ((hr.objs i o p a b).ban hD), hr.new, hr.apart, fun a q => q.elim (hr.fbn a) fun q => q ▸ not_muts hr hD⟩
theorem HR.unban (hr : HR (G.ban D) ρ σ h) : HR G ρ σ h :=
  ⟨hr.stays, fun a q => hr.fbd a (.inl q), hr.len, fun i o p a b => (hr.objs i o p a b).unban, hr.new, hr.apart, fun a q => hr.fbn a (.inl q)⟩

theorem OR.vk {p : Addr × Addr} {o : O} (x : VK G.fb ρ mu h ρ' mu' h) (r : OR G ρ mu h p o) : OR G ρ' mu' h p o := by
  cases o with
  | list vs =>
    obtain ⟨e, o, xs, n, ho, hc, hd, hv, hz⟩ := r
    exact ⟨e, o, xs, n, ho, hc, hd, hv.vk x, hz⟩
  | inst c fs =>
    obtain ⟨hne, ho, m, hm, hf⟩ := r
    exact ⟨hne, ho, m, hm, fun n => (hf n).imp id fun ⟨v, y, a, b, c⟩ => ⟨v, y, a, b, c.vk x⟩⟩
  | dict es => exact r
  | dead => trivial

theorem newList_end {ρ₁ : Pl} {σ₁ : H} {h₁ : Heap} {o : Obj} {xs : Array Value} {n : Nat} {vs : List V} {v : V} {σ'' : H} {m : Bool} (hr₁ : HR G ρ₁ σ₁ h₁) (hr : HR (G.ban D) ρ' σ' h) (x : Ext ρ₁ (muts ρ₁ σ₁) h₁ ρ' (muts ρ' σ') h) (hD : h₁.get? D = none)
    (ho : h.get? D = some o) (hc : o.cls = .type "list") (hd : o.data = .seq xs n) (hdd : o.dict = none) (hv : VRs (G.ban D) ρ' (muts ρ' σ') h vs xs.toList) (hn : ¬ muts ρ' σ' D) (e : newList m vs σ' = .ok v σ'') :
    ∃ ρ'', HR G ρ'' σ'' h ∧ Ext ρ₁ (muts ρ₁ σ₁) h₁ ρ'' (muts ρ'' σ'') h ∧ VR G ρ'' (muts ρ'' σ'') h v (.ref D) ∧ ∀ b, muts ρ'' σ'' b → muts ρ' σ' b ∨ b = D := by
  have hfb : ¬ G.fb D := fun q => by obtain ⟨o, e⟩ := hr₁.fbd D q; rw [hD] at e; cases e
  have hb : G.base.get? D = none := not_base hr₁ hD
  unfold newList at e
  split at e
  case isFalse => cases e
  rename_i hz
  cases m with
  | false =>
    cases e
    exact ⟨ρ', hr.unban, x, .lst ho (fun q => q.elim hn hfb) hc hd hv.unban hz, fun b q => .inl q⟩
  | true =>
    cases e
    have hm : ∀ b, muts (ρ' ++ [(D, D)]) (σ' ++ [.list vs]) b → muts ρ' σ' b ∨ b = D := by
      rintro b ⟨i, o', p, h1, h2, h3, h4⟩
      rcases Nat.lt_or_ge i σ'.length with hi | hi
      · rw [List.getElem?_append_left hi] at h1
        rw [List.getElem?_append_left (hr.len ▸ hi)] at h3
        exact .inl ⟨i, o', p, h1, h2, h3, h4⟩
      · have hi' : i = σ'.length := by
          have := (List.getElem?_eq_some_iff.mp h1).1
          simp at this; lia
        subst hi'
        rw [← hr.len] at h3
        simp at h3
        subst h3
        exact .inr (h4.elim id id)
    have hpl : ∀ (i : Nat) (p : Addr × Addr), ρ'[i]? = some p → (ρ' ++ [(D, D)])[i]? = some p := fun i p e => by
      rw [List.getElem?_append_left (List.getElem?_eq_some_iff.mp e).1]; exact e
    have vk : VK (G.ban D).fb ρ' (muts ρ' σ') h (ρ' ++ [(D, D)]) (muts (ρ' ++ [(D, D)]) (σ' ++ [.list vs])) h :=
      ⟨hpl, fun a o n f e _ => ⟨fun q => (hm a q).elim n fun q => f (.inr q), o, e, .inl rfl⟩⟩
    have old : ∀ {i : Nat} {o' : O} {p : Addr × Addr}, (σ' ++ [O.list vs])[i]? = some o' → (ρ' ++ [(D, D)])[i]? = some p → (σ'[i]? = some o' ∧ ρ'[i]? = some p) ∨ (i = σ'.length ∧ o' = .list vs ∧ p = (D, D)) := by
      intro i o' p h1 h3
      rcases Nat.lt_or_ge i σ'.length with hi | hi
      · rw [List.getElem?_append_left hi] at h1
        rw [List.getElem?_append_left (hr.len ▸ hi)] at h3
        exact .inl ⟨h1, h3⟩
      · have hi' : i = σ'.length := by
          have := (List.getElem?_eq_some_iff.mp h1).1
          simp at this; lia
        subst hi'
        rw [← hr.len] at h3
        simp at h1 h3
        exact .inr ⟨rfl, h1.symm, h3.symm⟩
    have big : ∀ {i : Nat} {o' : O} {p : Addr × Addr}, σ'[i]? = some o' → o' ≠ .dead → ρ'[i]? = some p → p.1 ≠ D ∧ p.2 ≠ D := fun h1 h2 h3 =>
      ⟨fun q => hn (q ▸ ⟨_, _, _, h1, h2, h3, .inl rfl⟩), fun q => hn (q ▸ ⟨_, _, _, h1, h2, h3, .inr rfl⟩)⟩
    refine ⟨ρ' ++ [(D, D)], ⟨hr.stays, fun a q => hr.fbd a (.inl q), by simp [hr.len], fun i o' p h1 h3 => ?_, fun b m => ?_, fun i j oi oj p q hi hj ni nj hp hq hne => ?_, fun b f m => (hm b m).elim (hr.fbn b (.inl f)) fun q => hfb (q ▸ f)⟩, ?_, ?_, hm⟩
    · rcases old h1 h3 with ⟨h1, h3⟩ | ⟨_, rfl, rfl⟩
      · exact ((hr.objs i o' p h1 h3).vk vk).unban
      · exact ⟨rfl, o, xs, n, ho, hc, hd, (hv.vk vk).unban, hz, hdd⟩
    · rcases hm b m with m | rfl
      · exact hr.new b m
      · exact hb
    · rcases old hi hp with ⟨hi', hp'⟩ | ⟨e1, _, ep⟩ <;> rcases old hj hq with ⟨hj', hq'⟩ | ⟨e2, _, eq⟩
      · exact hr.apart i j oi oj p q hi' hj' ni nj hp' hq' hne
      · have := big hi' ni hp'
        rw [eq]
        exact ⟨this.1, this.1, this.2, this.2⟩
      · have := big hj' nj hq'
        rw [ep]
        exact ⟨this.1.symm, this.2.symm, this.1.symm, this.2.symm⟩
      · exact absurd (e1.trans e2.symm) hne
    · refine ⟨fun i p e => hpl i p (x.pl i p e), x.dom, fun a o na ea => ?_⟩
      obtain ⟨n', k⟩ := x.keep a o na ea
      exact ⟨fun q => (hm a q).elim n' fun q => (by rw [q, hD] at ea; cases ea), k⟩
    · have := VR.ref (G := G) (ρ := ρ' ++ [(D, D)]) (mu := muts (ρ' ++ [(D, D)]) (σ' ++ [.list vs])) (h := h) (i := σ'.length) (p := (D, D)) (by rw [← hr.len]; simp)
      exact this
end

noncomputable def clOf (env : Env) : List (Str × NameKind) → List (Str × Addr) → List (Str × Addr)
  | [], acc => acc
  | (n, k) :: r, acc => if k == .free then clOf env r ((n, (env.cells.lookup n).getD 0) :: acc) else clOf env r acc

theorem closureFor_cl {scope : Scope} {env : Env} (h : ∀ p ∈ scope.names, p.2 = .free → ∃ c, env.cells.lookup p.1 = some c) : closureFor scope env = pure (clOf env scope.names []) := by
  simp only [closureFor]
  have : ∀ (ns : List (Str × NameKind)) (acc : List (Str × Addr)), (∀ p ∈ ns, p.2 = .free → ∃ c, env.cells.lookup p.1 = some c) →
      (forIn ns acc fun (x : Str × NameKind) r => match x with
        | (name, kind) => if (kind == NameKind.free) = true then do let c ← cellOf env name; pure (ForInStep.yield ((name, c) :: r)) else pure (ForInStep.yield r) : Sem _) = pure (clOf env ns acc) := by
    intro ns
    induction ns with
    | nil => intro acc _; rfl
    | cons p r ih =>
      intro acc hp
      obtain ⟨n, k⟩ := p
      rw [List.forIn_cons]
      by_cases hk : k = .free
      · subst hk
        obtain ⟨c, hc⟩ := hp _ (.head _) rfl
        have e1 : cellOf env n = pure c := by unfold cellOf; rw [hc]
        simp only [beq_self_eq_true, if_true, e1, pure_bind]
        rw [ih _ fun q hq => hp q (.tail _ hq)]
        simp [clOf, hc]
      · have : (k == NameKind.free) = false := by simpa using hk
        simp only [this, Bool.false_eq_true, if_false, pure_bind]
        rw [ih _ fun q hq => hp q (.tail _ hq)]
        simp [clOf, this]
  rw [this _ _ h]
  rfl

theorem clOf_get {env : Env} : ∀ (ns : List (Str × NameKind)) (acc : List (Str × Addr)), (∀ p ∈ ns, p.2 = .free → ∃ c, env.cells.lookup p.1 = some c) → ∀ y c, (clOf env ns acc).lookup y = some c → acc.lookup y = some c ∨ env.cells.lookup y = some c
  | [], acc, _, y, c, e => .inl e
  | (n, k) :: r, acc, hp, y, c, e => by
    unfold clOf at e
    split at e
    · rename_i hk
      obtain ⟨c', hc'⟩ := hp _ (.head _) (by simpa using hk)
      rcases clOf_get r _ (fun q hq => hp q (.tail _ hq)) y c e with q | q
      · rw [List.lookup_cons] at q
        cases hb : y == n with
        | true =>
          rw [hb] at q
          simp only [Option.some.injEq] at q
          have := beq_iff_eq.mp hb
          subst this
          refine .inr ?_
          rw [hc'] at q ⊢
          simp at q; rw [q]
        | false => rw [hb] at q; exact .inl q
      · exact .inr q
    · exact clOf_get r acc (fun q hq => hp q (.tail _ hq)) y c e
theorem clOf_acc {env : Env} : ∀ (ns : List (Str × NameKind)) (acc : List (Str × Addr)) (y : Str), (acc.lookup y).isSome = true → ((clOf env ns acc).lookup y).isSome = true
  | [], _, _, h => h
  | (n, k) :: r, acc, y, h => by
    unfold clOf
    split
    · refine clOf_acc r _ y ?_
      rw [List.lookup_cons]
      cases y == n with
      | true => rfl
      | false => exact h
    · exact clOf_acc r acc y h
theorem clOf_mem {env : Env} : ∀ (ns : List (Str × NameKind)) (acc : List (Str × Addr)) (y : Str), (y, NameKind.free) ∈ ns → ∃ c, (clOf env ns acc).lookup y = some c
  | (n, k) :: r, acc, y, h => by
    unfold clOf
    rcases List.mem_cons.mp h with e | h
    · cases e
      rw [if_pos (by rfl)]
      exact Option.isSome_iff_exists.mp (clOf_acc r _ _ (by rw [List.lookup_cons]; simp))
    · split
      · exact clOf_mem r _ y h
      · exact clOf_mem r _ y h

section
variable {prog : Program} {w : World} {K : Frag} {P : PI} {T : Tab} {rk : Nat} {v : Ev} {G : Cfg} {A : Around} {fr : List Env} {ρ ρ' : Pl} {σ σ' : H} {s s' : Shared} {env : Env} {l : L}

theorem FrOk.ex {fb ex : Addr → Prop} {mu mu' : Addr → Prop} {h h' : Heap} (x : Ex fb ex ρ mu h ρ' mu' h') (r : FrOk G fr mu h) : FrOk G fr mu' h' := fun e he => by
  obtain ⟨a, L, o, h1, h2, h3, h4, h5, h6⟩ := r e he
  obtain ⟨n', o', e', c', d'⟩ := x.frm L o h3 h4 h5 h6
  exact ⟨a, L, _, h1, h2, n', e', c', d'⟩
theorem FrOk.ban {D : Addr} {mu : Addr → Prop} {h : Heap} (r : FrOk G fr mu h) : FrOk (G.ban D) fr mu h := r

structure CompOk (scope : Scope) (v : Ev) (x : Str) : Prop where
  kind : scope.kind = .function
  cell : ∀ p ∈ scope.names, p.2 ≠ .cell
  loc : scope.names.lookup x = some .local
  locs : ∀ p ∈ scope.names, p.2 = .local → scope.names.lookup p.1 = some .local ∧ (p.1 = x ∨ p.1 ∉ v.names)
  free : ∀ p ∈ scope.names, p.2 = .free → v.kind p.1 = some .cell
  dbg : x ≠ ("__debug__" : Str)
  q0 : v.qt = 0
theorem compOk_of {scope : Scope} {x : Str} (h : compOk scope v x = true) : CompOk scope v x := by
  unfold compOk at h
  simp only [Bool.and_eq_true, List.all_eq_true, beq_iff_eq, bne_iff_ne, Bool.or_eq_true, Bool.not_eq_true'] at h
  obtain ⟨⟨⟨⟨⟨⟨h1, h2⟩, h3⟩, h4⟩, h5⟩, h6⟩, h7⟩ := h
  refine ⟨h1, fun p hp => h2 p hp, h3, fun p hp e => ?_, fun p hp e => (h5 p hp).resolve_left (fun z => z e), h6, h7⟩
  obtain ⟨a, b⟩ := (h4 p hp).resolve_left (fun z => z e)
  exact ⟨a, b.imp id fun q z => by rw [List.contains_iff_mem.mpr z] at q; cases q⟩

theorem lookup_mem {β : Type} : ∀ {ns : List (Str × β)} {x : Str} {k : β}, ns.lookup x = some k → (x, k) ∈ ns
  | (n, k') :: r, x, k, h => by
    rw [List.lookup_cons] at h
    cases hb : x == n with
    | true => rw [hb] at h; cases h; rw [beq_iff_eq.mp hb]; exact .head _
    | false => rw [hb] at h; exact .tail _ (lookup_mem h)

theorem lookup_map_key {β : Type} {f : Str × β → Str × β} (hf : ∀ p, (f p).1 = p.1) : ∀ {ns : List (Str × β)} {x : Str} {k : β}, (ns.map f).lookup x = some k → ∃ k', ns.lookup x = some k' ∧ f (x, k') = (x, k)
  | (n, k') :: r, x, k, h => by
    rw [List.map_cons, show f (n, k') = ((f (n, k')).1, (f (n, k')).2) from rfl, List.lookup_cons, hf] at h
    rw [List.lookup_cons]
    cases hb : x == n with
    | true =>
      rw [hb] at h
      have := beq_iff_eq.mp hb; subst this
      cases h
      exact ⟨k', rfl, by rw [show f (x, k') = ((f (x, k')).1, (f (x, k')).2) from rfl, hf]⟩
    | false => rw [hb] at h; exact lookup_map_key hf h

theorem compKind_eq (st : St prog w K P T rk v G A fr ρ σ s env l) (scope : Scope) (cl : List (Str × Addr)) (C : Addr) (x : Str) : (compEnvC scope cl C env).kindOf x = compKind scope v.kind x := by
  unfold compKind Env.kindOf compEnvC relabel
  simp only [st.f.kind, beq_self_eq_true, Bool.and_true, st.knd]

theorem compKind_local {scope : Scope} {x y : Str} (ok : CompOk scope v x) (h : compKind scope v.kind y = some .local) : y = x ∨ y ∉ v.names := by
  obtain ⟨k, hk, e⟩ := lookup_map_key (f := fun (n, k) => if (k == NameKind.free && v.kind n == some .cell) then (n, NameKind.cell) else (n, k)) (fun p => by dsimp only; split <;> rfl) h
  dsimp only at e
  split at e
  · cases e
  · cases e; exact (ok.locs _ (lookup_mem hk) rfl).2
theorem compKind_cell {scope : Scope} {x y : Str} (ok : CompOk scope v x) (h : compKind scope v.kind y = some .cell) : (y, NameKind.free) ∈ scope.names ∧ v.kind y = some .cell ∧ y ≠ x := by
  obtain ⟨k, hk, e⟩ := lookup_map_key (f := fun (n, k) => if (k == NameKind.free && v.kind n == some .cell) then (n, NameKind.cell) else (n, k)) (fun p => by dsimp only; split <;> rfl) h
  dsimp only at e
  split at e
  · rename_i q
    simp only [Bool.and_eq_true, beq_iff_eq] at q
    obtain ⟨rfl, q2⟩ := q
    refine ⟨lookup_mem hk, q2, ?_⟩
    rintro rfl
    rw [ok.loc] at hk; cases hk
  · cases e; exact absurd rfl (ok.cell _ (lookup_mem hk))
theorem compKind_x {scope : Scope} {x : Str} (ok : CompOk scope v x) : compKind scope v.kind x = some .local := by
  have : ∀ ns : List (Str × NameKind), ns.lookup x = some .local → (ns.map fun (n, k) => if (k == NameKind.free && v.kind n == some .cell) then (n, NameKind.cell) else (n, k)).lookup x = some .local := by
    intro ns
    induction ns with
    | nil => intro h; cases h
    | cons p r ih =>
      obtain ⟨n, k⟩ := p
      intro h
      rw [List.lookup_cons] at h
      cases hb : x == n with
      | true =>
        rw [hb] at h
        cases h
        simp [List.lookup_cons, hb]
      | false =>
        rw [hb] at h
        rw [List.map_cons]
        dsimp only
        split <;> (rw [List.lookup_cons, hb]; exact ih h)
  exact this _ ok.loc

theorem own_comp {scope : Scope} {x : Str} {C a : Addr} (ok : CompOk scope v x) (st : St prog w K P T rk v G A fr ρ σ s env l) (ho : own (compEnvC scope (clOf env scope.names []) C env) a) : a = C ∨ ∃ o, s.heap.get? a = some o := by
  rcases ho with q | ⟨y, hy⟩
  · exact .inl q
  · have hfree : ∀ p ∈ scope.names, p.2 = .free → ∃ c, env.cells.lookup p.1 = some c := fun p hp e => st.f.celK p.1 (by rw [st.knd]; exact ok.free p hp e)
    rcases clOf_get scope.names [] hfree y a hy with q | q
    · cases q
    · obtain ⟨_, _, _, z, o, ho, _⟩ := st.f.cel y a q
      exact .inr ⟨o, ho⟩

theorem comp_frame {scope : Scope} {x : Str} {C D : Addr} {h' : Heap} (ok : CompOk scope v x) (st : St prog w K P T rk v G A fr ρ σ s env l) (k : ∀ b o, s.heap.get? b = some o → h'.get? b = some o) (hD : s.heap.get? D = none) (hC : s.heap.get? C = none)
    (hn : h'.Ns C fun _ => none) : FR (G.ban D) (x :: v.names) (compEnvC scope (clOf env scope.names []) C env) (none :: l) ρ (muts ρ σ) h' := by
  have hfree : ∀ p ∈ scope.names, p.2 = .free → ∃ c, env.cells.lookup p.1 = some c := fun p hp e => st.f.celK p.1 (by rw [st.knd]; exact ok.free p hp e)
  have hcl : ∀ y c, (clOf env scope.names []).lookup y = some c → env.cells.lookup y = some c := fun y c e => (clOf_get scope.names [] hfree y c e).resolve_left (fun q => by cases q)
  have idx : ∀ y, y ≠ x → (x :: v.names).idxOf y = v.names.idxOf y + 1 := fun y hy => by
    rw [List.idxOf_cons]
    have : (x == y) = false := beq_eq_false_iff_ne.mpr hy.symm
    rw [this]; rfl
  refine ⟨ok.kind, st.f.glob, st.f.blt, by simp [st.f.len], ⟨_, hn, fun y a hk hl => ?_⟩, not_muts st.hr hC, not_base st.hr hC, fun y c e => ?_, fun y hk => ?_, fun y y' c e e' => st.f.celA y y' c (hcl y c e) (hcl y' c e')⟩
  · exfalso
    rw [compKind_eq st] at hk
    rcases compKind_local ok hk with rfl | hy
    · simp at hl
    · by_cases hyx : y = x
      · subst hyx; simp at hl
      · rw [idx y hyx, List.idxOf_eq_length hy, List.getElem?_cons_succ, ← st.f.len, List.getElem?_eq_none (Nat.le_refl _)] at hl
        cases hl
  · obtain ⟨q1, q2, q3, z, o, ho, hcl', hd, hv⟩ := st.f.cel y c (hcl y c e)
    refine ⟨q1, fun q => ?_, q3, z, o, k _ _ ho, hcl', hd, fun a hk hl => ?_⟩
    · have q' : c = C := q
      rw [q', hC] at ho; cases ho
    · rw [compKind_eq st] at hk
      obtain ⟨_, hk', hyx⟩ := compKind_cell ok hk
      rw [idx y hyx, List.getElem?_cons_succ] at hl
      obtain ⟨z', e1, e2⟩ := hv a (by rw [st.knd]; exact hk') hl
      exact ⟨z', e1, (e2.ban hD).ext (Ext.of_keeps k)⟩
  · rw [compKind_eq st] at hk
    exact clOf_mem _ _ _ (compKind_cell ok hk).1
end
end Mine.Internal
namespace Mine.Internal
open PySem PyProof.Rows PySem.W

structure CEnd (G : Cfg) (ρ₁ : Pl) (σ₁ : H) (s₁ : Shared) (σe : H) (vs : List V) (D C : Addr) (s' : Shared) (ρ' : Pl) : Prop where
  fD : s₁.heap.get? D = none
  fC : s₁.heap.get? C = none
  ne : D ≠ C
  out : OutS (fun a => s₁.heap.get? a = none) (G.ban D) ρ₁ σ₁ s₁ ρ' σe s'
  nC : ¬ muts ρ' σe C
  ns : ∃ m, s'.heap.Ns C m
  nD : ¬ muts ρ' σe D
  obj : ∃ o xs n, s'.heap.get? D = some o ∧ o.cls = .type "list" ∧ o.data = .seq xs n ∧ o.dict = none ∧ VRs (G.ban D) ρ' (muts ρ' σe) s'.heap vs xs.toList

structure CExc (G : Cfg) (ρ₁ : Pl) (σ₁ : H) (s₁ : Shared) (σe : H) (c : Nat) (e D C : Addr) (s' : Shared) (ρ' : Pl) : Prop where
  fD : s₁.heap.get? D = none
  fC : s₁.heap.get? C = none
  ne : D ≠ C
  out : OutS (fun a => s₁.heap.get? a = none) (G.ban D) ρ₁ σ₁ s₁ ρ' σe s'
  nC : ¬ muts ρ' σe C
  ns : ∃ m, s'.heap.Ns C m
  er : ER (G.ban D) s₁.heap (muts ρ' σe) s'.heap c e
  head : ∃ oe vs T, s'.heap.get? e = some oe ∧ oe.data = .fields vs ∧ vs[1]? = some (.ref T)

section
variable {prog : Program} {w : World} {K : Frag} {P : PI} {T : Tab} {rk : Nat} {v : Ev} {G : Cfg} {A : Around} {fr : List Env} {ρ₁ : Pl} {σ₁ σe : H} {s₁ : Shared} {env : Env} {l : L} {vs : List V} {D C : Addr} {s' : Shared} {ρ' : Pl}

theorem Hyp.ban (Y : Hyp prog w G K P T rk) (D : Addr) : Hyp prog w (G.ban D) K P T rk := Y.fb _

theorem CEnd.letgo {h' : Heap} (c : CEnd G ρ₁ σ₁ s₁ σe vs D C s' ρ') (hr₁ : HR G ρ₁ σ₁ s₁.heap) (x : Heap.SameBut C s'.heap h') : ∃ o xs n, OutS (fun a => s₁.heap.get? a = none) (G.ban D) ρ₁ σ₁ s₁ ρ' σe { s' with heap := h' } ∧
    h'.get? D = some o ∧ o.cls = .type "list" ∧ o.data = .seq xs n ∧ o.dict = none ∧ VRs (G.ban D) ρ' (muts ρ' σe) h' vs xs.toList := by
  obtain ⟨m, oC, es, ep, hoC, hdC, _⟩ := c.ns
  obtain ⟨o, xs, n, ho, hc, hd, hdd, hv⟩ := c.obj
  have hnv : ¬ isVal oC := fun v => by rcases v.2 with ⟨xs, n, q⟩ | ⟨vs, q⟩ <;> rw [hdC] at q <;> cases q
  have hfb : ¬ (G.ban D).fb C := fun q => q.elim (fun q => by obtain ⟨o, e⟩ := hr₁.fbd C q; rw [c.fC] at e; cases e) fun q => c.ne q.symm
  obtain ⟨X1, X2⟩ := OutS.endBut c.out c.fC c.fC c.nC (not_base hr₁ c.fC) hfb hoC hnv x.extBut
  exact ⟨o, xs, n, X1, x.extBut _ _ c.ne ho, hc, hd, hdd, hv.vk X2⟩

structure CInv (G : Cfg) (ρ₁ : Pl) (σ₁ : H) (s₁ : Shared) (names : List Str) (cenv : Env) (l : L) (I D : Addr) (src : V) (cond : V → H → Res Bool) (elt : V → H → Res V) (r : Res (List V)) (n : Nat) (s : Shared) (k : Nat) (acc : List V) (ρ' : Pl) (σ' : H) (a : Option V) : Prop where
  run : loopComp src cond elt n k acc σ' = r
  out : OutS (fun a => s₁.heap.get? a = none) (G.ban D) ρ₁ σ₁ s₁ ρ' σ' s
  it : ItR (G.ban D) ρ' (muts ρ' σ') s.heap src I k
  nI : ¬ muts ρ' σ' I
  nD : ¬ muts ρ' σ' D
  obj : ∃ o xs n, s.heap.get? D = some o ∧ o.cls = .type "list" ∧ o.data = .seq xs n ∧ o.dict = none ∧ VRs (G.ban D) ρ' (muts ρ' σ') s.heap acc xs.toList
  fr : FR (G.ban D) names cenv (a :: l) ρ' (muts ρ' σ') s.heap

theorem comp_run {src : V} {xv : Value} {x : Str} {px : Pos} {iter' : Expr} {ifs : List Expr} {elt' : Expr} {elt : CE} {scope : Scope} {pos : Pos} {cond : V → H → Res Bool} {N : Nat} {RR : Value → Addr → Result → Shared → Prop} {E : Value → Shared → Prop}
    (st : St prog w K P T rk v G A fr ρ₁ σ₁ s₁ env l) (rv : VR G ρ₁ (muts ρ₁ σ₁) s₁.heap src xv) (ok : CompOk scope v x)
    (helt : EOk prog w K P T rk ⟨x :: v.names, compKind scope v.kind, 0⟩ elt elt')
    (htest : ∀ (G : Cfg) (A : Around) (fr : List Env) (ρ : Pl) (σ : H) (s : Shared) (env : Env) (a : V) (Q : Bool → Shared → Prop) (E : Value → Shared → Prop), St prog w K P T rk ⟨x :: v.names, compKind scope v.kind, 0⟩ G A fr ρ σ s env (some a :: l) →
      Req G ρ σ s (cond a σ) (fun _ _ _ b b' => b = b') Q E → wpAny (model prog w) A (forIn ifs true fun c r => if r = true then do let ok ← PySem.isTrue c env (eval c env); pure (ForInStep.yield ok) else pure (ForInStep.yield r)) Q E s)
    {r : Res (List V)} (hl : loopComp src cond (fun a h => aeval T elt (some a :: l) h) N 0 [] σ₁ = r) (hstk : r ≠ .stuck)
    (postX : ∀ c σe, r = .exc c σe → ∀ e D C s' ρ', CExc G ρ₁ σ₁ s₁ σe c e D C s' ρ' → RR (.ref D) C (.error (.ref e)) s')
    (post : ∀ vs σe, r = .ok vs σe → ∀ D C s' ρ', CEnd G ρ₁ σ₁ s₁ σe vs D C s' ρ' → RR (.ref D) C (.ok .next) s') :
    wpAny (model prog w) A (pyIter xv) (fun it s₂ => wpAny (model prog w) A (PySem.newList []) (fun acc s₃ => wpAny (model prog w) A (newFunctionEnv scope env.globals (clOf env scope.names []) [] env.qual none .none (some env)) (fun cenv s₄ =>
      codeAny (model prog w) A (.compStart (.ListComp elt' [⟨.Name x px, iter', ifs, 0⟩] scope pos) 0 it acc { cenv with scope := relabel scope env }) (RR acc cenv.locals) s₄) E s₃) E s₂) E s₁ := by
  have hsrc : ∃ r, nextOf src 0 σ₁ = some r := by
    cases N with
    | zero => exact absurd hl.symm hstk
    | succ N =>
      unfold loopComp at hl
      split at hl
      · exact absurd hl.symm hstk
      · rename_i q; exact ⟨_, q⟩
      · rename_i q; exact ⟨_, q⟩
  refine iter_sound st.hr rv hsrc fun s₂ o₂ it₂ => ?_
  have st₂ := st.out o₂
  have hI₁ : s₁.heap.get? s₁.heap.objs.size = none := size_none _
  generalize hI : s₁.heap.objs.size = I at it₂ hI₁ ⊢
  refine wpAny_newObj_type (wpAny_newFunctionEnv ok.cell (by intro y hy; simp at hy) (fun h₄ hns₄ hsb₄ => ?_) ok.kind)
  dsimp only at hns₄ hsb₄ ⊢
  have hD₂ : s₂.heap.get? s₂.heap.objs.size = none := size_none _
  generalize hH3 : s₂.heap.push { cls := .type "list", dict := none, data := .seq ([] : List Value).toArray } = H3 at hns₄ hsb₄ ⊢
  have hD3 : H3.get? s₂.heap.objs.size = some { cls := .type "list", dict := none, data := .seq ([] : List Value).toArray } := by rw [← hH3]; exact Heap.get?_push_size _ rfl
  have hC3 : H3.get? H3.objs.size = none := size_none _
  generalize hD : s₂.heap.objs.size = D at hD₂ hD3 ⊢
  generalize hC : H3.objs.size = C at hC3 hns₄ hsb₄ ⊢
  have k3 : ∀ b o, s₂.heap.get? b = some o → H3.get? b = some o := fun b o e => by rw [← hH3]; exact Heap.get?_push_of_some _ e
  have neC : ∀ {b : Addr} {o : Obj}, H3.get? b = some o → b ≠ C := fun e q => by rw [q, hC3] at e; cases e
  have k4 : ∀ b o, H3.get? b = some o → h₄.get? b = some o := fun b o e => hsb₄.extBut b o (neC e) (Heap.get?_push_of_some _ e)
  have k24 : ∀ b o, s₂.heap.get? b = some o → h₄.get? b = some o := fun b o e => k4 b o (k3 b o e)
  have hDC : D ≠ C := neC hD3
  have fr1 : ∀ {a : Addr}, s₂.heap.get? a = none → s₁.heap.get? a = none := fun e => none_of_dom (fun a o e => o₂.ext.dom a o e) e
  have hC₂ : s₂.heap.get? C = none := none_of_dom (fun a o e => ⟨o, k3 a o e⟩) hC3
  have hfD := fr1 hD₂
  have hfC := fr1 hC₂
  obtain ⟨oi, hoi, _⟩ := it₂.notVal
  have hID : I ≠ D := fun q => by rw [q, hD₂] at hoi; cases hoi
  have hIC : I ≠ C := fun q => by rw [q, hC₂] at hoi; cases hoi
  have hbI : G.base.get? I = none := not_base st.hr hI₁
  have hbD : G.base.get? D = none := not_base st.hr hfD
  have hbC : G.base.get? C = none := not_base st.hr hfC
  have hfbI : ¬ (G.ban D).fb I := fun q => q.elim (fun q => by obtain ⟨o, e⟩ := st.hr.fbd I q; rw [hI₁] at e; cases e) hID
  have hr4 : HR (G.ban D) ρ₁ σ₁ h₄ := st₂.hr.ban hD₂ k24 ⟨_, k4 _ _ hD3⟩
  have out4 : OutS (fun a => s₁.heap.get? a = none) (G.ban D) ρ₁ σ₁ s₁ ρ₁ σ₁ { s₂ with heap := h₄, toks := s₂.toks + ([] : List (Str × Value)).length } :=
    ⟨hr4, (o₂.ext.trans (Ext.of_keeps k24)).ex, o₂.gens, o₂.os⟩
  have it4 : ItR (G.ban D) ρ₁ (muts ρ₁ σ₁) h₄ src I 0 := by
    have b2 : ItR (G.ban D) ρ₁ (muts ρ₁ σ₁) s₂.heap src I 0 := by
      unfold ItR at it₂ ⊢
      split at it₂
      · obtain ⟨a, q1, q2⟩ := it₂; exact ⟨a, q1, q2.ban hD₂⟩
      · exact it₂
      · exact it₂
      · exact it₂.elim
    exact b2.vk (Ext.of_keeps k24).vk fun o e => k24 _ _ e
  have hns : h₄.Ns C fun _ => none := by simpa using hns₄
  have inv4 : CInv G ρ₁ σ₁ s₁ (x :: v.names) (compEnvC scope (clOf env scope.names []) C env) l I D src cond (fun a h => aeval T elt (some a :: l) h) r N { s₂ with heap := h₄, toks := s₂.toks + ([] : List (Str × Value)).length } 0 [] ρ₁ σ₁ none :=
    ⟨hl, out4, it4, not_muts st.hr hI₁, not_muts st.hr hfD, ⟨_, _, _, k4 _ _ hD3, rfl, rfl, rfl, .nil⟩, comp_frame ok st₂ k24 hD₂ hC₂ hns⟩
  have loop : codeAny (model prog w) A (.compLoop (.ListComp elt' [⟨.Name x px, iter', ifs, 0⟩] scope pos) 0 (.ref I) (.ref D) (compEnvC scope (clOf env scope.names []) C env)) (RR (.ref D) C) { s₂ with heap := h₄, toks := s₂.toks + ([] : List (Str × Value)).length } := by
    refine codeAny_compLoop_tests (fun n s => ∃ k acc ρ' σ' a, CInv G ρ₁ σ₁ s₁ (x :: v.names) (compEnvC scope (clOf env scope.names []) C env) l I D src cond (fun a h => aeval T elt (some a :: l) h) r n s k acc ρ' σ' a) (fun n s hI' => ?_) N ⟨_, _, _, _, _, inv4⟩
    obtain ⟨k, acc, ρ', σ', a, inv⟩ := hI'
    cases n with
    | zero => exact absurd inv.run.symm hstk
    | succ n =>
      have run := inv.run
      unfold loopComp at run
      split at run
      · exact absurd run.symm hstk
      · -- the end
        rename_i hnx
        refine next_sound (st.hok.none ok.q0) inv.out.hr inv.it inv.nI hbI hnx (fun _ h' hx => ?_) fun v _ _ e => (by cases e)
        obtain ⟨oi', hoi', hnv', _⟩ := inv.it.notVal
        obtain ⟨X1, X2⟩ := OutS.endBut inv.out hI₁ hI₁ inv.nI hbI hfbI hoi' hnv' hx
        obtain ⟨od, xs, nn, ho, hc, hd, hdd, hv⟩ := inv.obj
        obtain ⟨m, hm, _⟩ := inv.fr.loc
        exact post _ _ run.symm D C _ ρ' ⟨hfD, hfC, hDC, X1, inv.fr.locN, ⟨m, hm.extBut hx (Ne.symm hIC)⟩, inv.nD, ⟨od, xs, nn, hx _ _ (Ne.symm hID) ho, hc, hd, hdd, hv.vk X2⟩⟩
      · rename_i y hnx
        refine next_sound (st.hok.none ok.q0) inv.out.hr inv.it inv.nI hbI hnx (fun e => by cases e) fun y' yv s₃ e o₃ it₃ ry => ?_
        cases e
        obtain ⟨od, xs, nn, ho, hc, hd, hdd, hv⟩ := inv.obj
        have ho₃ : s₃.heap.get? D = some od := (o₃.ext.keep D od inv.nD (Ne.symm hID) ho).2.1 (by rw [hc]; decide)
        have fr₃ : FR (G.ban D) (x :: v.names) (compEnvC scope (clOf env scope.names []) C env) (a :: l) ρ' (muts ρ' σ') s₃.heap := inv.fr.vk o₃.ext.vk fun b ob hb e nb => o₃.ext.keep b ob nb (fun q => by
          rcases own_comp (C := C) ok st hb with z | ⟨o, z⟩
          · exact hIC (q.symm.trans z)
          · rw [q, hI₁] at z; cases z) e
        refine wpAny_assign_Name (store_local (x := x) o₃.hr fr₃ (.head _) (by rw [compKind_eq st]; exact compKind_x ok) ry fun s₄ o₄ fr₄ => ?_)
        have ix : (x :: v.names).idxOf x = 0 := by rw [List.idxOf_cons]; simp
        rw [ix] at fr₄
        have ho₄ : s₄.heap.get? D = some od := (o₄.ext.keep D od inv.nD hDC ho₃).2.1 (by rw [hc]; decide)
        obtain ⟨oi₃, hoi₃, hnv₃, hnf₃⟩ := it₃.notVal
        have hoi₄ : s₄.heap.get? I = some oi₃ := (o₄.ext.keep I oi₃ inv.nI hIC hoi₃).2.1 hnf₃
        have it₄ : ItR (G.ban D) ρ' (muts ρ' σ') s₄.heap src I (k + 1) := it₃.vk o₄.ext.vk fun o e => by rw [hoi₃] at e; cases e; exact hoi₄
        have out₄ : OutS (fun a => s₁.heap.get? a = none) (G.ban D) ρ₁ σ₁ s₁ ρ' σ' s₄ := (inv.out.trans (o₃.mono fun a e => by rw [e]; exact hI₁)).trans (o₄.mono fun a e => by rw [show a = C from e]; exact hfC)
        have hv₄ := (hv.vk o₃.ext.vk).vk o₄.ext.vk
        have stC : ∀ {ρ'' : Pl} {σ'' : H} {s'' : Shared}, OutS (fun a => s₁.heap.get? a = none) (G.ban D) ρ₁ σ₁ s₁ ρ'' σ'' s'' → FR (G.ban D) (x :: v.names) (compEnvC scope (clOf env scope.names []) C env) (some y :: l) ρ'' (muts ρ'' σ'') s''.heap →
            St prog w K P T rk ⟨x :: v.names, compKind scope v.kind, 0⟩ (G.ban D) A fr ρ'' σ'' s'' (compEnvC scope (clOf env scope.names []) C env) (some y :: l) :=
          fun o f => ⟨st.Y.ban D, st.room, .inl (st.hok.none ok.q0), st.frm, FrOk.ex o.ext st.fo, o.hr, fun z => compKind_eq st scope _ _ z, f, st.hdf⟩
        split at run
        · -- the test holds
          rename_i σ₅ hcnd
          split at run
          case h_3 => exact absurd run.symm hstk
          case h_2 =>
            rename_i c σ₆ helt'
            refine htest _ _ _ _ _ _ _ y _ _ (stC out₄ fr₄) ?_
            rw [hcnd]
            intro b ρ₅ s₅ o₅ eb
            subst eb
            rw [if_pos rfl]
            refine helt _ _ _ _ _ _ _ _ _ _ (stC (out₄.trans o₅.s) (fr₄.ext o₅.ext)) ?_
            rw [helt']
            intro e ρ₆ s₆ o₆ er
            have out₆ := (out₄.trans o₅.s).trans o₆.s
            have fr₅ := fr₄.ext o₅.ext
            have fr₆ := fr₅.ext o₆.ext
            obtain ⟨e₀, outer, hfr0, hfe⟩ := st.hdf
            have fo₆ : FrOk (G.ban D) (e₀ :: outer) (muts ρ₆ σ₆) s₆.heap := hfr0 ▸ FrOk.ex out₆.ext st.fo
            unfold notedBy
            refine note_lnd (G := G.ban D) (h₀ := s₅.heap) (env₀ := e₀) (outer := outer) (st.frm.trans (by rw [hfr0])) hfe fo₆ (fun a m => muts_lt out₆.hr m) out₆.hr.stays o₆.ext.dom er fun h' x => ?_
            have o₇ := x.out (s' := s₆) fo₆.fsOk (o₆.s (ex := fun a => s₁.heap.get? a = none))
            obtain ⟨m₅, ⟨oC5, _, _, ho5, _⟩, _⟩ := fr₅.loc
            obtain ⟨m, ⟨oC, es, ep, hoC, hdC, hkC, hmC⟩, _⟩ := fr₆.loc
            obtain ⟨_, sl, hoC'⟩ := x.keep C oC hoC (fun z => by
              have z5 := er.new
              rw [← z] at z5
              rw [show s₅.heap.get? C = some oC5 from ho5] at z5; cases z5) (.inr (.inl ⟨_, ho5⟩))
            exact postX c σ₆ run.symm e D C _ ρ₆ ⟨hfD, hfC, hDC, (out₄.trans o₅.s).trans o₇, fr₆.locN, ⟨m, _, es, ep, hoC', hdC, hkC, hmC⟩, x.er.le (out₄.trans o₅.s).ext.dom, x.head⟩
          rename_i xr σ₆ helt'
          split at run
          case isFalse => exact absurd run.symm hstk
          rename_i hlt
          refine htest _ _ _ _ _ _ _ y _ _ (stC out₄ fr₄) ?_
          rw [hcnd]
          intro b ρ₅ s₅ o₅ eb
          subst eb
          rw [if_pos rfl]
          refine helt _ _ _ _ _ _ _ _ _ _ (stC (out₄.trans o₅.s) (fr₄.ext o₅.ext)) ?_
          rw [helt']
          intro xw ρ₆ s₆ o₆ rx
          obtain ⟨e5, n5⟩ := o₅.ext.keepObj inv.nD ho₄ (by rw [hc]; decide)
          obtain ⟨e6, n6⟩ := o₆.ext.keepObj n5 e5 (by rw [hc]; decide)
          obtain ⟨i5, m5⟩ := o₅.ext.keepObj inv.nI hoi₄ hnf₃
          obtain ⟨i6, m6⟩ := o₆.ext.keepObj m5 i5 hnf₃
          have it₆ : ItR (G.ban D) ρ₆ (muts ρ₆ σ₆) s₆.heap src I (k + 1) := (it₄.vk o₅.ext.vk fun o e => by rw [hoi₄] at e; cases e; exact i5).vk o₆.ext.vk fun o e => by rw [i5] at e; cases e; exact i6
          have hv₆ := (hv₄.ext o₅.ext).ext o₆.ext
          have fr₆ := (fr₄.ext o₅.ext).ext o₆.ext
          have out₆ := (out₄.trans o₅.s).trans o₆.s
          have hlen := hv₆.length
          simp only [Array.length_toList] at hlen
          refine list_append' e6 hc hd (by rw [sizeLine_eq]; lia) fun h₇ o₇ n₇ ho₇ hc₇ hd₇ hdd₇ hs₇ => ⟨n, Nat.lt_succ_self _, k + 1, acc ++ [xr], ρ₆, σ₆, some y, ?_⟩
          have X := HR.own (ex := fun a => s₁.heap.get? a = none) out₆.hr n6 hbD e6 (.inr (.inr rfl)) ho₇ hs₇ hfD fun c => by rw [hc] at c; exact absurd c (by decide)
          refine ⟨run, out₆.trans ⟨X.1, X.2, rfl, rfl⟩, it₆.vk X.2.vk fun o e => (hs₇.2 I hID).trans e, m6, n6, ⟨o₇, _, n₇, ho₇, hc₇, hd₇, hdd₇.trans hdd, ?_⟩, fr₆.vk X.2.vk fun b ob hb e nb => ?_⟩
          · rw [Array.toList_push]
            exact (hv₆.vk X.2.vk).append (.cons (rx.vk X.2.vk) .nil)
          · have : b ≠ D := fun q => by
              rcases own_comp (C := C) ok st hb with z | ⟨o, z⟩
              · exact hDC (q.symm.trans z)
              · rw [q, hfD] at z; cases z
            exact ⟨nb, fun _ => (hs₇.2 b this).trans e, ob.slots, (hs₇.2 b this).trans e⟩
        · -- the test fails
          rename_i σ₅ hcnd
          refine htest _ _ _ _ _ _ _ y _ _ (stC out₄ fr₄) ?_
          rw [hcnd]
          intro b ρ₅ s₅ o₅ eb
          subst eb
          rw [if_neg (by decide)]
          refine ⟨n, Nat.lt_succ_self _, k + 1, acc, ρ₅, σ₅, some y, ?_⟩
          obtain ⟨e5, n5⟩ := o₅.ext.keepObj inv.nD ho₄ (by rw [hc]; decide)
          obtain ⟨i5, m5⟩ := o₅.ext.keepObj inv.nI hoi₄ hnf₃
          exact ⟨run, out₄.trans o₅.s, it₄.vk o₅.ext.vk fun o e => (by rw [hoi₄] at e; cases e; exact i5), m5, n5, ⟨od, xs, nn, e5, hc, hd, hdd, hv₄.ext o₅.ext⟩, fr₄.ext o₅.ext⟩
        · exact absurd run.symm hstk
  exact codeAny_compStart_list loop (reiter it4 loop)
end
end Mine.Internal
namespace Mine.Internal
open PySem PyProof.Rows PySem.W

section
variable {prog : Program} {w : World} {K : Frag} {P : PI} {T : Tab} {rk : Nat} {v : Ev} {G : Cfg} {A : Around} {fr : List Env} {ρ ρ' : Pl} {σ σ' : H} {s s' : Shared} {env : Env} {l : L} {Q : Value → Shared → Prop} {E : Value → Shared → Prop}

theorem notSet_fold {e : Expr} (h : notSet e = true) (env : Env) (x : Value) : foldedSetIterable e env x = pure x := by
  unfold foldedSetIterable
  cases e <;> first | rfl | cases h

theorem comp_any {x : Str} {px : Pos} {it : CE} {it' : Expr} {ifs : List Expr} {elt' : Expr} {elt : CE} {scope : Scope} {pos p₀ : Pos} {cond : L → V → H → Res Bool} {m : Bool} {use : Option (Value → Sem Unit)}
    (hset : notSet it' = true) (hit : EOk prog w K P T rk v it it') (ok : CompOk scope v x)
    (helt : EOk prog w K P T rk ⟨x :: v.names, compKind scope v.kind, 0⟩ elt elt')
    (htest : ∀ (G : Cfg) (A : Around) (fr : List Env) (ρ : Pl) (σ : H) (s : Shared) (env : Env) (l : L) (a : V) (Q : Bool → Shared → Prop) (E : Value → Shared → Prop), St prog w K P T rk ⟨x :: v.names, compKind scope v.kind, 0⟩ G A fr ρ σ s env (some a :: l) →
      Req G ρ σ s (cond l a σ) (fun _ _ _ b b' => b = b') Q E → wpAny (model prog w) A (forIn ifs true fun c r => if r = true then do let ok ← PySem.isTrue c env (eval c env); pure (ForInStep.yield ok) else pure (ForInStep.yield r)) Q E s)
    {α β : Type} {rel : Pl → (Addr → Prop) → Heap → α → β → Prop} {Q' : β → Shared → Prop} {k : V → H → Res α}
    (st : St prog w K P T rk v G A fr ρ σ s env l)
    (req : Req G ρ σ s ((aeval T it l σ).bind fun src h => (loopComp src (cond l) (fun a h => aeval T elt (some a :: l) h) (srcLen src h + 1) 0 [] h).bind fun vs h => (newList m vs h).bind k) rel Q' E)
    (post : ∀ vs v σe σ'' ρ₁ σ₁ s₁ D C s' ρ', Out G ρ σ s ρ₁ σ₁ s₁ → CEnd G ρ₁ σ₁ s₁ σe vs D C s' ρ' → newList m vs σe = .ok v σ'' → Req G ρ₁ σ₁ s₁ (k v σ'') rel Q' E → compPost (model prog w) A E use Q (.ref D) C (.ok .next) s') :
    wpAny (model prog w) A (comprehension (.ListComp elt' [⟨.Name x px, it', ifs, 0⟩] scope pos) scope env p₀ (PySem.newList []) false (eval it' env) use) Q E s := by
  have hfree : ∀ p ∈ scope.names, p.2 = .free → ∃ c, env.cells.lookup p.1 = some c := fun p hp e => st.f.celK p.1 (by rw [st.knd]; exact ok.free p hp e)
  refine wpAny_comprehension_free rfl (notSet_fold hset env) (closureFor_cl hfree) ok.kind (fun p hp e => (ok.locs p hp e).1) ?_
  refine hit _ _ _ _ _ _ _ _ _ _ st (Req.bind req fun src σ₁ xv ρ₁ s₁ o₁ rv req₁ => ?_)
  cases hl : loopComp src (cond l) (fun a h => aeval T elt (some a :: l) h) (srcLen src σ₁ + 1) 0 [] σ₁ with
  | stuck => rw [hl] at req₁; exact req₁.elim
  | exc c σe =>
    rw [hl] at req₁
    refine comp_run (RR := fun acc C => compPost (model prog w) A E use Q acc C) (st.out o₁) rv ok helt (fun G A fr ρ σ s env a Q E => htest G A fr ρ σ s env l a Q E) hl (fun e => by cases e) (fun c' σ' e' e D C s' ρ' cx => ?_) fun _ _ e => by cases e
    cases e'
    obtain ⟨m, oC, es, ep, hoC, hdC, hkC, hmC⟩ := cx.ns
    refine ⟨m, ⟨oC, es, ep, hoC, hdC, hkC, hmC⟩, fun h' hs cenv _ => ?_⟩
    have hnv : ¬ isVal oC := fun v => by rcases v.2 with ⟨xs, n, q⟩ | ⟨vs, q⟩ <;> rw [hdC] at q <;> cases q
    have hr₁ := (st.out o₁).hr
    have hfb : ¬ (G.ban D).fb C := fun q => q.elim (fun q => by obtain ⟨o, e⟩ := hr₁.fbd C q; rw [cx.fC] at e; cases e) fun q => cx.ne q.symm
    obtain ⟨X1, X2⟩ := OutS.endBut cx.out cx.fC cx.fC cx.nC (not_base hr₁ cx.fC) hfb hoC hnv hs.extBut
    obtain ⟨oe, vs, he, hc, hd, hfl, ht⟩ := cx.er.obj
    have neC : ∀ {a : Addr} {o : Obj} {ws : Array Value}, s'.heap.get? a = some o → o.data = .fields ws → a ≠ C := fun q d z => by
      rw [z, hoC] at q; cases q
      rw [hdC] at d; cases d
    have mv : ∀ {a : Addr} {o : Obj} {ws : Array Value}, s'.heap.get? a = some o → o.data = .fields ws → h'.get? a = some o := fun q d => (hs.2 _ (neC q d)).trans q
    have er' : ER (G.ban D) s₁.heap (muts ρ' σe) h' c e := ⟨cx.er.new, cx.er.nmu, cx.er.nb, oe, vs, mv he hd, hc, hd, hfl, ht.imp id fun ⟨T, oT, ts, q1, q2, q3, q4, q5, q6, q7, q8, q9⟩ => ⟨T, oT, ts, q1, q2, q3, q4, q5, mv q6 q8, q7, q8, q9⟩⟩
    obtain ⟨oe', vs', T', he', hd', h1'⟩ := cx.head
    have hh' : ∃ oe vs T, h'.get? e = some oe ∧ oe.data = .fields vs ∧ vs[1]? = some (.ref T) := ⟨oe', vs', T', mv he' hd', hd', h1'⟩
    unfold PySem.passOn
    refine wpAny_bind (wpAny_field (mv he' hd') hd' h1' ?_)
    rw [if_neg (by simp)]
    refine wpAny_bind (set_lnd (s := { s' with heap := h' }) (fs := []) (h₀ := s₁.heap) er' hh' fun h'' y _ => wpAny_throw ?_)
    have o₂ := y.out (s' := { s' with heap := h' }) (fun a ha => by cases ha) X1
    exact req₁ e ρ' _ ⟨o₂.hr.unban, o₂.ext.toExt fun a e => e, o₂.gens, o₂.os⟩ ⟨y.er.new, y.er.nmu, y.er.nb, y.er.obj⟩
  | ok vs σe =>
    rw [hl] at req₁
    cases hn : newList m vs σe with
    | stuck => simp only [Res.bind, hn] at req₁; exact req₁.elim
    | exc c h' => exact absurd hn (by unfold newList; split <;> (try split) <;> exact fun e => by cases e)
    | ok v' σ'' =>
      simp only [Res.bind, hn] at req₁
      exact comp_run (RR := fun acc C => compPost (model prog w) A E use Q acc C) (st.out o₁) rv ok helt (fun G A fr ρ σ s env a Q E => htest G A fr ρ σ s env l a Q E) hl (fun e => by cases e) (fun _ _ e => by cases e) fun vs' σ' e' D C s' ρ' ce => by
        cases e'
        exact post vs v' σe σ'' ρ₁ σ₁ s₁ D C s' ρ' o₁ ce hn req₁

theorem CEnd.value {ρ₁ : Pl} {σ₁ σe σ'' : H} {s₁ : Shared} {vs : List V} {D C : Addr} {m : Bool} {v' : V} {h' : Heap} (ce : CEnd G ρ₁ σ₁ s₁ σe vs D C s' ρ') (hr₁ : HR G ρ₁ σ₁ s₁.heap) (hn : newList m vs σe = .ok v' σ'') (x : Heap.SameBut C s'.heap h') :
    ∃ ρ'', Out G ρ₁ σ₁ s₁ ρ'' σ'' { s' with heap := h' } ∧ VR G ρ'' (muts ρ'' σ'') h' v' (.ref D) ∧ ¬ muts ρ'' σ'' C := by
  obtain ⟨o, xs, n, X, ho, hc, hd, hdd, hv⟩ := ce.letgo hr₁ x
  obtain ⟨ρ'', q1, q2, q3, q4⟩ := newList_end hr₁ X.hr (X.ext.toExt fun a e => e) ce.fD ho hc hd hdd hv ce.nD hn
  exact ⟨ρ'', ⟨q1, q2, X.gens, X.os⟩, q3, fun q => (q4 C q).elim ce.nC fun q => ce.ne q.symm⟩

theorem bind_ok {α : Type} (r : Res α) : (r.bind fun a h => .ok a h) = r := by cases r <;> rfl

theorem arm_comp_any {x : Str} {px : Pos} {it : CE} {it' : Expr} {ifs : List Expr} {elt' : Expr} {elt c : CE} {scope : Scope} {pos : Pos} {cond : L → V → H → Res Bool} {m : Bool}
    (hset : notSet it' = true) (hit : EOk prog w K P T rk v it it') (ok : CompOk scope v x)
    (helt : EOk prog w K P T rk ⟨x :: v.names, compKind scope v.kind, 0⟩ elt elt')
    (htest : ∀ (G : Cfg) (A : Around) (fr : List Env) (ρ : Pl) (σ : H) (s : Shared) (env : Env) (l : L) (a : V) (Q : Bool → Shared → Prop) (E : Value → Shared → Prop), St prog w K P T rk ⟨x :: v.names, compKind scope v.kind, 0⟩ G A fr ρ σ s env (some a :: l) →
      Req G ρ σ s (cond l a σ) (fun _ _ _ b b' => b = b') Q E → wpAny (model prog w) A (forIn ifs true fun c r => if r = true then do let ok ← PySem.isTrue c env (eval c env); pure (ForInStep.yield ok) else pure (ForInStep.yield r)) Q E s)
    (hc : ∀ l σ, aeval T c l σ = (aeval T it l σ).bind fun src h => (loopComp src (cond l) (fun a h => aeval T elt (some a :: l) h) (srcLen src h + 1) 0 [] h).bind fun vs h => newList m vs h) :
    EOk prog w K P T rk v c (.ListComp elt' [⟨.Name x px, it', ifs, 0⟩] scope pos) := fun G A fr ρ σ s env l Q E st req => by
  rw [hc] at req
  have req' : Req G ρ σ s ((aeval T it l σ).bind fun src h => (loopComp src (cond l) (fun a h => aeval T elt (some a :: l) h) (srcLen src h + 1) 0 [] h).bind fun vs h => (newList m vs h).bind fun a h => .ok a h) (VR G) Q E := by
    simpa only [bind_ok] using req
  rw [arm_eval_ListComp]
  refine comp_any (use := none) hset hit ok helt htest st req' fun vs v' σe σ'' ρ₁ σ₁ s₁ D C s' ρ' o₁ ce hn rq => ?_
  obtain ⟨mm, hm⟩ := ce.ns
  refine ⟨mm, hm, fun h' x => ?_⟩
  obtain ⟨ρ'', q1, q2, _⟩ := ce.value o₁.hr hn x
  exact rq _ ρ'' _ q1 q2

theorem tests_nil (x : Str) (scope : Scope) : ∀ (G : Cfg) (A : Around) (fr : List Env) (ρ : Pl) (σ : H) (s : Shared) (env : Env) (l : L) (a : V) (Q : Bool → Shared → Prop) (E : Value → Shared → Prop), St prog w K P T rk ⟨x :: v.names, compKind scope v.kind, 0⟩ G A fr ρ σ s env (some a :: l) →
      Req G ρ σ s (Res.ok true σ) (fun _ _ _ b b' => b = b') Q E → wpAny (model prog w) A (forIn ([] : List Expr) true fun c r => if r = true then do let ok ← PySem.isTrue c env (eval c env); pure (ForInStep.yield ok) else pure (ForInStep.yield r)) Q E s :=
  fun _ _ _ ρ _ s _ _ _ _ _ st req => wpAny_tests_nil (req _ ρ s (Out.refl st.hr) rfl)
theorem tests_one {x : Str} {scope : Scope} {c : CE} {e : Expr} (h : TOk prog w K P T rk ⟨x :: v.names, compKind scope v.kind, 0⟩ c e) : ∀ (G : Cfg) (A : Around) (fr : List Env) (ρ : Pl) (σ : H) (s : Shared) (env : Env) (l : L) (a : V) (Q : Bool → Shared → Prop) (E : Value → Shared → Prop), St prog w K P T rk ⟨x :: v.names, compKind scope v.kind, 0⟩ G A fr ρ σ s env (some a :: l) →
      Req G ρ σ s ((aeval T c (some a :: l) σ).bind truthy) (fun _ _ _ b b' => b = b') Q E → wpAny (model prog w) A (forIn [e] true fun c r => if r = true then do let ok ← PySem.isTrue c env (eval c env); pure (ForInStep.yield ok) else pure (ForInStep.yield r)) Q E s :=
  fun _ _ _ _ _ _ _ _ _ _ _ st req => wpAny_tests_one (h _ _ _ _ _ _ _ _ _ _ st req)

theorem aeval_comp {m : Bool} {elt it : CE} (l : L) (σ : H) : aeval T (.comp m elt it) l σ = (aeval T it l σ).bind fun src h => (loopComp src (fun _ h => .ok true h) (fun a h => aeval T elt (some a :: l) h) (srcLen src h + 1) 0 [] h).bind fun vs h => newList m vs h := ae_comp
theorem aeval_compIf {m : Bool} {elt it c : CE} (l : L) (σ : H) : aeval T (.compIf m elt it c) l σ = (aeval T it l σ).bind fun src h => (loopComp src (fun a h => (aeval T c (some a :: l) h).bind truthy) (fun a h => aeval T elt (some a :: l) h) (srcLen src h + 1) 0 [] h).bind fun vs h => newList m vs h := ae_compIf

noncomputable def ET (prog : Program) (w : World) (K : Frag) (P : PI) (T : Tab) (rk : Nat) (v : Ev) (c : CE) (e : Expr) : Prop := EOk prog w K P T rk v c e ∧ TOk prog w K P T rk v c e
theorem ET.plain {c : CE} {e : Expr} (p : plainTest e = true) (h : EOk prog w K P T rk v c e) : ET prog w K P T rk v c e := ⟨h, TOk.plain p h⟩

theorem g_comp {g : Ev → CE → Expr → Bool} {elt it : CE} {elt' : Expr} {scope : Scope} {gen : Comprehension} {k : Ev → Bool} {M : Comprehension → Prop} (h : chkG g v elt it elt' scope gen k = true)
    (f : ∀ x px it' ifs, gen.ifs = ifs → notSet it' = true → g v it it' = true → CompOk scope v x → g ⟨x :: v.names, compKind scope v.kind, 0⟩ elt elt' = true → k ⟨x :: v.names, compKind scope v.kind, 0⟩ = true → M ⟨.Name x px, it', ifs, 0⟩) : M gen := by
  obtain ⟨t, it', ifs, a⟩ := gen
  refine eName_el (fun t => M ⟨t, it', ifs, a⟩) h fun x px h => ?_
  have h0 := and_of h; have h1 := and_of h0.2; have h2 := and_of h1.2; have h3 := and_of h2.2; have h4 := and_of h3.2
  rw [show a = 0 from eq_of_beq h0.1]
  exact f x px it' ifs rfl h1.1 h2.1 (compOk_of h3.1) h4.1 h4.2
theorem s_comp {g : Ev → CE → Expr → Bool} {c : CE} {elt' : Expr} {gens : List Comprehension} {scope : Scope} {M : List Comprehension → Prop} (hg : ∀ v c e, g v c e = true → ET prog w K P T rk v c e) (h : chkC g v c elt' gens scope = true)
    (f : ∀ x px it' ifs m it elt (cond : L → V → H → Res Bool), notSet it' = true → EOk prog w K P T rk v it it' → CompOk scope v x → EOk prog w K P T rk ⟨x :: v.names, compKind scope v.kind, 0⟩ elt elt' →
      (∀ (G : Cfg) (A : Around) (fr : List Env) (ρ : Pl) (σ : H) (s : Shared) (env : Env) (l : L) (a : V) (Q : Bool → Shared → Prop) (E : Value → Shared → Prop), St prog w K P T rk ⟨x :: v.names, compKind scope v.kind, 0⟩ G A fr ρ σ s env (some a :: l) →
        Req G ρ σ s (cond l a σ) (fun _ _ _ b b' => b = b') Q E → wpAny (model prog w) A (forIn ifs true fun c r => if r = true then do let ok ← PySem.isTrue c env (eval c env); pure (ForInStep.yield ok) else pure (ForInStep.yield r)) Q E s) →
      (∀ l σ, aeval T c l σ = (aeval T it l σ).bind fun src h => (loopComp src (cond l) (fun a h => aeval T elt (some a :: l) h) (srcLen src h + 1) 0 [] h).bind fun vs h => newList m vs h) → M [⟨.Name x px, it', ifs, 0⟩]) : M gens := by
  cases c with
  | comp m elt it =>
    refine l1_el M h fun gen h => ?_
    have h0 := and_of h
    refine g_comp (M := fun gen => M [gen]) h0.2 fun x px it' ifs q h1 h2 h3 h4 _ => ?_
    rw [← q, List.isEmpty_iff.mp h0.1]
    exact f _ _ _ _ _ _ _ (fun _ _ h => .ok true h) h1 (hg _ _ _ h2).1 h3 (hg _ _ _ h4).1 (tests_nil _ _) aeval_comp
  | compIf m elt it cond =>
    refine l1_el M h fun gen h => ?_
    obtain ⟨i, hi⟩ : ∃ i, gen.ifs = [i] ∧ chkG g v elt it elt' scope gen (fun v' => g v' cond i) = true := l1_el (fun l => ∃ i, l = [i] ∧ chkG g v elt it elt' scope gen (fun v' => g v' cond i) = true) h fun i h => ⟨i, rfl, h⟩
    refine g_comp (M := fun gen => M [gen]) hi.2 fun x px it' ifs q h1 h2 h3 h4 h5 => ?_
    rw [← q, hi.1]
    exact f _ _ _ _ _ _ _ (fun l a h => (aeval T cond (some a :: l) h).bind truthy) h1 (hg _ _ _ h2).1 h3 (hg _ _ _ h4).1 (tests_one (hg _ _ _ h5).2) aeval_compIf
  | _ => cases h
theorem c_sound {g : Ev → CE → Expr → Bool} {c : CE} {elt' : Expr} {gens : List Comprehension} {scope : Scope} {pos : Pos} (hg : ∀ v c e, g v c e = true → ET prog w K P T rk v c e) (h : chkC g v c elt' gens scope = true) : EOk prog w K P T rk v c (.ListComp elt' gens scope pos) :=
  s_comp (M := fun gens => EOk prog w K P T rk v c (.ListComp elt' gens scope pos)) hg h fun _ _ _ _ _ _ _ _ h1 h2 h3 h4 h5 h6 => arm_comp_any h1 h2 h3 h4 h5 h6

theorem chkP_el {e : Expr} {k : Str → List Expr → Bool} (M : Expr → Prop) (h : chkP e k = true) (f : ∀ x p args pos, k x args = true → M (.Call (.Name x p) args [] pos)) : M e :=
  eCall_el M h fun g args kws pos h => nil_el (fun kws => M (.Call g args kws pos)) (and_of h).1 (eName_el (fun g => M (.Call g args [] pos)) (and_of h).2 fun x p h => f x p args pos h)
theorem chkM_el {e : Expr} {k : Expr → Str → List Expr → Bool} (M : Expr → Prop) (h : chkM e k = true) (f : ∀ ov name apos args pos, (apos.endLine == pos.line) = true → k ov name args = true → M (.Call (.Attribute ov name apos) args [] pos)) : M e :=
  eCallP_el M h fun g args kws pos h => nil_el (fun kws => M (.Call g args kws pos)) (and_of h).1 (eAttrP_el (fun g => M (.Call g args [] pos)) (and_of h).2 fun ov name apos h => f ov name apos args pos (and_of h).1 (and_of h).2)

theorem chk1_sound {g : Ev → CE → Expr → Bool} {c : CE} {e : Expr} (ih : ∀ v c e, g v c e = true → ET prog w K P T rk v c e) (h : chk1 P K rk g v c e = true) : ET prog w K P T rk v c e := by
  have ihE : ∀ c e, g v c e = true → EOk prog w K P T rk v c e := fun c e h => (ih v c e h).1
  have ihT : ∀ c e, g v c e = true → TOk prog w K P T rk v c e := fun c e h => (ih v c e h).2
  cases c with
  | var j =>
    exact eName_el (ET prog w K P T rk v _) h fun x p h => .plain rfl (arm_var h)
  | none =>
    exact eConst_el (ET prog w K P T rk v _) h fun k d p h => cNone_el (fun k => ET prog w K P T rk v _ (.Constant k d p)) h fun _ => .plain rfl arm_none
  | bool b =>
    exact eConst_el (ET prog w K P T rk v _) h fun k d p h => cBool_el (fun k => ET prog w K P T rk v _ (.Constant k d p)) h fun b' h => beq_er (fun k => ET prog w K P T rk v _ (.Constant (.bool k) d p)) h (.plain rfl arm_boolc)
  | int i =>
    exact (Bool.or_eq_true_iff.mp h).elim
      (fun h => eConst_el (ET prog w K P T rk v _) h fun k d p h => cInt_el (fun k => ET prog w K P T rk v _ (.Constant k d p)) h fun b' h => beq_er (fun k => ET prog w K P T rk v _ (.Constant (.int k) d p)) h (.plain rfl arm_int))
      fun h => eName_el (ET prog w K P T rk v _) h fun x p h => .plain rfl (arm_gint (and_of h).1 (and_of h).2)
  | str s =>
    exact eConst_el (ET prog w K P T rk v _) h fun k d p h => cStr_el (fun k => ET prog w K P T rk v _ (.Constant k d p)) h fun b' h => beq_er (fun k => ET prog w K P T rk v _ (.Constant (.str k) d p)) (and_of h).1 (.plain rfl (arm_str (and_of h).2))
  | bin m op a b =>
    exact eBin_el (ET prog w K P T rk v _) h fun l o r p h => have h0 := and_of h; have h1 := and_of h0.2
      beq_el (fun o => ET prog w K P T rk v _ (.BinOp l o r p)) h0.1 (.plain rfl (arm_bin (ihE _ _ h1.1) (ihE _ _ h1.2)))
  | neg a =>
    exact eUn_el (ET prog w K P T rk v _) h fun o x p h => beq_el (fun o => ET prog w K P T rk v _ (.UnaryOp o x p)) (and_of h).1 (.plain rfl (arm_neg (ihE _ _ (and_of h).2)))
  | not a =>
    exact eUn_el (ET prog w K P T rk v _) h fun o x p h => beq_el (fun o => ET prog w K P T rk v _ (.UnaryOp o x p)) (and_of h).1 ⟨arm_not (ihE _ _ (and_of h).2), tst_not (ihT _ _ (and_of h).2)⟩
  | and a b =>
    exact eBo_el (ET prog w K P T rk v _) h fun o es p h => beq_el (fun o => ET prog w K P T rk v _ (.BoolOp o es p)) (and_of h).1 ⟨fun G A fr ρ σ s env l Q E st req => arm_bool ihE (and_of h).2 st req, fun G A fr ρ σ s env l Q E st req => tst_bool ihT (and_of h).2 st req⟩
  | or a b =>
    exact eBo_el (ET prog w K P T rk v _) h fun o es p h => beq_el (fun o => ET prog w K P T rk v _ (.BoolOp o es p)) (and_of h).1 ⟨fun G A fr ρ σ s env l Q E st req => arm_bool ihE (and_of h).2 st req, fun G A fr ρ σ s env l Q E st req => tst_bool ihT (and_of h).2 st req⟩
  | cmp op a b =>
    exact eCmp_el (ET prog w K P T rk v _) h fun x ops rs p h => l1_el (fun ops => ET prog w K P T rk v _ (.Compare x ops rs p)) h fun o h => l1_el (fun rs => ET prog w K P T rk v _ (.Compare x [o] rs p)) h fun r h => have h0 := and_of h; have h1 := and_of h0.2
      beq_el (fun o => ET prog w K P T rk v _ (.Compare x [o] [r] p)) h0.1 ⟨arm_cmp (ihE _ _ h1.1) (ihE _ _ h1.2), tst_cmp (ihE _ _ h1.1) (ihE _ _ h1.2)⟩
  | cmp2 o1 o2 a b d =>
    exact eCmp_el (ET prog w K P T rk v _) h fun x ops rs p h => l2_el (fun ops => ET prog w K P T rk v _ (.Compare x ops rs p)) h fun p1 p2 h => l2_el (fun rs => ET prog w K P T rk v _ (.Compare x [p1, p2] rs p)) h fun r1 r2 h => have h0 := and_of h; have h1 := and_of h0.2; have h2 := and_of h1.2; have h3 := and_of h2.2
      beq_el (fun p1 => ET prog w K P T rk v _ (.Compare x [p1, p2] [r1, r2] p)) h0.1 (beq_el (fun p2 => ET prog w K P T rk v _ (.Compare x [cmpOf o1, p2] [r1, r2] p)) h1.1 ⟨arm_cmp2 (ihE _ _ h2.1) (ihE _ _ h3.1) (ihE _ _ h3.2), tst_cmp2 (ihE _ _ h2.1) (ihE _ _ h3.1) (ihE _ _ h3.2)⟩)
  | slice m a lo hi =>
    exact eSubs_el (ET prog w K P T rk v _) h fun x s p h => eSlice_el (fun s => ET prog w K P T rk v _ (.Subscript x s p)) h fun l u t q h => have h0 := and_of h; have h1 := and_of h0.2; have h2 := and_of h1.2
      no_el (fun t => ET prog w K P T rk v _ (.Subscript x (.Slice l u t q) p)) h0.1 (.plain rfl (arm_slice ihE (ihE _ _ h1.1) h2.1 h2.2))
  | sub a i =>
    exact eSubs_el (ET prog w K P T rk v _) h fun x s p h => have h0 := and_of h; have h1 := and_of h0.2
      .plain rfl (arm_sub h0.1 (ihE _ _ h1.1) (ihE _ _ h1.2))
  | call i as =>
    exact chkP_el (ET prog w K P T rk v _) h fun x p args pos h => have h0 := and_of h; have h1 := and_of h0.2
      (o1_of h1.1).elim fun fi q => .plain rfl (arm_call ihE h0.1 q.1 (eq_of_beq (and_of q.2).1) (of_decide_eq_true (and_of (and_of q.2).2).1) (of_decide_eq_true (and_of (and_of q.2).2).2) h1.2)
  | isi a t =>
    exact chkP_el (ET prog w K P T rk v _) h fun x p args pos h => l2_el (fun args => ET prog w K P T rk v _ (.Call (.Name x p) args [] pos)) h fun e t' h => eName_el (fun t' => ET prog w K P T rk v _ (.Call (.Name x p) [e, t'] [] pos)) h fun ty p' h =>
      have h0 := and_of h; have h1 := and_of h0.2; have h2 := and_of h1.2; have h3 := and_of h2.2; have h4 := and_of h3.2; have h5 := and_of h4.2
      .plain rfl (arm_isi (eq_of_beq h0.1) h1.1 (eq_of_beq h2.1) h3.1 (ihE _ _ h4.1) h5.1 ((Bool.or_eq_true_iff.mp h5.2).imp (fun z => (o1_of z).elim fun nm q => ⟨nm, q.1, eq_of_beq (and_of q.2).1, eq_of_beq (and_of q.2).2⟩) fun z => (tCls_of z).elim fun d q => ⟨d, q.1, (and_of q.2).1, (and_of q.2).2⟩))
  | prim p as =>
    exact chkP_el (ET prog w K P T rk v _) h fun x p args pos h => have h9 := and_of h; have h0 := and_of h9.2; have h1 := and_of h0.2; have h2 := and_of h1.2
      .plain rfl (arm_prim ihE ((Bool.or_eq_true_iff.mp h9.1).imp eq_of_beq id) (eq_of_beq h0.1) h1.1 (eq_of_beq h2.1) h2.2)
  | append o x =>
    exact chkM_el (ET prog w K P T rk v _) h fun ov name apos args pos hp h => l1_el (fun args => ET prog w K P T rk v _ (.Call (.Attribute ov name apos) args [] pos)) h fun arg h =>
      have h0 := and_of h; have h1 := and_of h0.2; have h2 := and_of h1.2; have h3 := and_of h2.2
      .plain rfl (arm_append (eq_of_beq h0.1) hp h1.1 h2.1 (ihE _ _ h3.1) (ihE _ _ h3.2))
  | join sep a =>
    exact chkM_el (ET prog w K P T rk v _) h fun ov name apos args pos hp h => l1_el (fun args => ET prog w K P T rk v _ (.Call (.Attribute ov name apos) args [] pos)) h fun arg h => eConst_el (fun ov => ET prog w K P T rk v _ (.Call (.Attribute ov name apos) [arg] [] pos)) h fun k d p h => cStr_el (fun k => ET prog w K P T rk v _ (.Call (.Attribute (.Constant k d p) name apos) [arg] [] pos)) h fun s h =>
      have h0 := and_of h; have h1 := and_of h0.2; have h2 := and_of h1.2; have h3 := and_of h2.2
      .plain rfl (arm_join (eq_of_beq h0.1) hp (eq_of_beq h1.1) h2.1 h3.1 (ihE _ _ h3.2))
  | list m cs =>
    exact eList_el (ET prog w K P T rk v _) h fun es p h => .plain rfl (arm_list ihE h)
  | tup cs =>
    exact eTup_el (ET prog w K P T rk v _) h fun es k p h => .plain rfl (arm_tup ihE h)
  | _ =>
    exact eLC_el (ET prog w K P T rk v _) h fun elt' gens scope pos h => .plain rfl (c_sound ih h)

theorem chk_sound : ∀ (n : Nat) (v : Ev) (c : CE) (e : Expr), chkE P K rk n v c e = true → ET prog w K P T rk v c e
  | 0, _, _, _, h => Bool.noConfusion h
  | n + 1, v, c, e, h => chk1_sound (chk_sound n) h
end
end Mine.Internal
namespace Mine.Internal
open PySem PyProof.Rows PySem.W

noncomputable def FlR (G : Cfg) (ρ : Pl) (mu : Addr → Prop) (h : Heap) : Fl → Flow → Prop
  | .next, .next => True
  | .cont, .cont => True
  | .ret v, .ret x => VR G ρ mu h v x
  | _, _ => False

noncomputable def SReq (names : List Str) (env : Env) (G : Cfg) (ρ : Pl) (σ : H) (s : Shared) (r : Res (Fl × L)) (Q : Flow → Shared → Prop) (E : Value → Shared → Prop) : Prop :=
  match r with
  | .ok a σ' => (∀ x ρ' s', OutS (own env) G ρ σ s ρ' σ' s' → FlR G ρ' (muts ρ' σ') s'.heap a.1 x → FR G names env a.2 ρ' (muts ρ' σ') s'.heap → Q x s') ∧
      ∀ c, a.1 = .exc c → ∀ e ρ' s', OutS (own env) G ρ σ s ρ' σ' s' → ER G s.heap (muts ρ' σ') s'.heap c e → FR G names env a.2 ρ' (muts ρ' σ') s'.heap → E (.ref e) s'
  | .exc _ _ => False
  | .stuck => False

section
variable {prog : Program} {w : World} {K : Frag} {P : PI} {T : Tab} {rk : Nat} {v : Ev} {G : Cfg} {A : Around} {fr : List Env} {ρ ρ' : Pl} {σ σ' : H} {s s' : Shared} {env : Env} {l l' : L} {Q : Flow → Shared → Prop} {E : Value → Shared → Prop} {names : List Str}

theorem SReq.step {r : Res (Fl × L)} (o : OutS (own env) G ρ σ s ρ' σ' s') (h : SReq names env G ρ σ s r Q E) : SReq names env G ρ' σ' s' r Q E := by
  cases r with
  | ok a σ₁ => exact ⟨fun x ρ₁ s₁ o₁ k => h.1 x ρ₁ s₁ (o.trans o₁) k, fun c q e ρ₁ s₁ o₁ k => h.2 c q e ρ₁ s₁ (o.trans o₁) (k.le o.ext.dom)⟩
  | exc c σ₁ => exact h
  | stuck => exact h

theorem SReq.bind {γ δ : Type} {r : Res γ} {f : γ → H → Res (Fl × L)} {rel' : Pl → (Addr → Prop) → Heap → γ → δ → Prop} {Q' : δ → Shared → Prop} (fr : FR G names env l ρ (muts ρ σ) s.heap) (h : SReq names env G ρ σ s (r.sbind l f) Q E)
    (k : ∀ v σ' x ρ' s', Out G ρ σ s ρ' σ' s' → rel' ρ' (muts ρ' σ') s'.heap v x → SReq names env G ρ' σ' s' (f v σ') Q E → Q' x s') : Req G ρ σ s r rel' Q' E := by
  cases r with
  | ok v σ₁ => exact fun x ρ₁ s₁ o q => k v σ₁ x ρ₁ s₁ o q (SReq.step (r := f v σ₁) o.s h)
  | exc c σ₁ => exact fun e ρ₁ s₁ o q => h.2 c rfl e ρ₁ s₁ o.s q (fr.ext o.ext)
  | stuck => exact h

theorem SReq.plain {a : Fl × L} (hn : ∀ c, a.1 ≠ .exc c) (h : ∀ x ρ' s', OutS (own env) G ρ σ s ρ' σ' s' → FlR G ρ' (muts ρ' σ') s'.heap a.1 x → FR G names env a.2 ρ' (muts ρ' σ') s'.heap → Q x s') : SReq names env G ρ σ s (.ok a σ') Q E :=
  ⟨h, fun c q => absurd q (hn c)⟩

theorem OutS.refl {ex : Addr → Prop} (hr : HR G ρ σ s.heap) : OutS ex G ρ σ s ρ σ s := (Out.refl hr).s

structure StS (prog : Program) (w : World) (K : Frag) (P : PI) (T : Tab) (rk : Nat) (v : Ev) (G : Cfg) (A : Around) (fr : List Env) (ρ : Pl) (σ : H) (s : Shared) (env : Env) (l : L) : Prop extends St prog w K P T rk v G A fr ρ σ s env l where
  hd : ∃ outer, fr = env :: outer ∧ env.frame = some env.locals
theorem StS.out (st : StS prog w K P T rk v G A fr ρ σ s env l) (o : Out G ρ σ s ρ' σ' s') : StS prog w K P T rk v G A fr ρ' σ' s' env l := ⟨st.toSt.out o, st.hd⟩
theorem HOk.ex {q : Nat} {fb : Addr → Prop} {ρ ρ' : Pl} {mu mu' : Addr → Prop} {h h' : Heap} {names : List Str} {l : L} (r : HOk q A mu h) (x : Ex fb (own env) ρ mu h ρ' mu' h') (f : FR G names env l ρ mu h) : HOk q A mu' h' :=
  r.imp id fun r => r.imp id fun ⟨q1, e, o, vs, C, a, b, c, d, g, i⟩ => by
    obtain ⟨k1, k2, _⟩ := x.keep e o b (fun z => by
      obtain ⟨_, _, o', y, n⟩ := f.own_not z
      rw [c] at y; cases y
      exact n ⟨.inr (.inr (.inr ⟨C, d⟩)), .inr ⟨vs, g⟩⟩) c
    exact ⟨q1, e, o, vs, C, a, k1, k2 (fun z => by rw [d] at z; cases z), d, g, i⟩
theorem StS.outS (st : StS prog w K P T rk v G A fr ρ σ s env l) (o : OutS (own env) G ρ σ s ρ' σ' s') (f : FR G v.names env l' ρ' (muts ρ' σ') s'.heap) : StS prog w K P T rk v G A fr ρ' σ' s' env l' :=
  ⟨⟨st.Y, st.room, st.hok.ex o.ext st.f, st.frm, FrOk.ex o.ext st.fo, o.hr, st.knd, f, st.hdf⟩, st.hd⟩

variable (prog w K P T rk) in
noncomputable def XOk (v : Ev) (c : CS) (e : Stmt) : Prop := ∀ (G : Cfg) (A : Around) (fr : List Env) (ρ : Pl) (σ : H) (s : Shared) (env : Env) (l : L) (Q : Flow → Shared → Prop) (E : Value → Shared → Prop),
  StS prog w K P T rk v G A fr ρ σ s env l → SReq v.names env G ρ σ s (aexec T c l σ) Q E → wpAny (model prog w) A (exec e env) Q E s
variable (prog w K P T rk) in
noncomputable def XsOk (v : Ev) (c : List CS) (e : List Stmt) : Prop := ∀ (G : Cfg) (A : Around) (fr : List Env) (ρ : Pl) (σ : H) (s : Shared) (env : Env) (l : L) (Q : Flow → Shared → Prop) (E : Value → Shared → Prop),
  StS prog w K P T rk v G A fr ρ σ s env l → SReq v.names env G ρ σ s (aexecs T c l σ) Q E → wpAny (model prog w) A (execs e env) Q E s

theorem SReq.here {f : Fl} {x : Flow} (h : SReq v.names env G ρ σ s (.ok (f, l) σ) Q E) (st : StS prog w K P T rk v G A fr ρ σ s env l) (hf : FlR G ρ (muts ρ σ) s.heap f x) : Q x s := h.1 x ρ s (OutS.refl st.hr) hf st.f

theorem xs_nil : XsOk prog w K P T rk v [] [] := fun G A fr ρ σ s env l Q E st req => by
  rw [axs_nil] at req
  exact wpAny_execs_nil (req.here st trivial)
theorem xs_cons {c : CS} {cs : List CS} {e : Stmt} {es : List Stmt} (h1 : XOk prog w K P T rk v c e) (h2 : XsOk prog w K P T rk v cs es) : XsOk prog w K P T rk v (c :: cs) (e :: es) := fun G A fr ρ σ s env l Q E st req => by
  rw [axs_cons] at req
  refine wpAny_execs_cons (h1 _ _ _ _ _ _ _ _ _ _ st ?_)
  generalize aexec T c l σ = r at req
  cases r with
  | exc _ _ => exact req.elim
  | stuck => exact req.elim
  | ok a σ₁ =>
    obtain ⟨f, l₁⟩ := a
    cases f with
    | next =>
      refine SReq.plain (fun _ e => by cases e) fun x ρ₁ s₁ o₁ hf f₁ => ?_
      cases x <;> first | exact hf.elim | skip
      exact h2 _ _ _ _ _ _ _ _ _ _ (st.outS o₁ f₁) (SReq.step o₁ req)
    | cont =>
      refine SReq.plain (fun _ e => by cases e) fun x ρ₁ s₁ o₁ hf f₁ => ?_
      cases x <;> first | exact hf.elim | skip
      exact req.1 _ ρ₁ s₁ o₁ trivial f₁
    | ret y =>
      refine SReq.plain (fun _ e => by cases e) fun x ρ₁ s₁ o₁ hf f₁ => ?_
      cases x <;> first | exact hf.elim | skip
      exact req.1 _ ρ₁ s₁ o₁ hf f₁
    | exc c => exact ⟨fun x _ _ _ hf => by cases x <;> exact hf.elim, req.2⟩

theorem x_pass {pos : Pos} : XOk prog w K P T rk v .pass (.Pass pos) := fun G A fr ρ σ s env l Q E st req => by
  rw [ax_pass] at req; exact wpAny_Pass (req.here st trivial)
theorem x_cont {pos : Pos} : XOk prog w K P T rk v .cont (.Continue pos) := fun G A fr ρ σ s env l Q E st req => by
  rw [ax_cont] at req; exact wpAny_Continue (req.here st trivial)
theorem x_bad {e : Stmt} : XOk prog w K P T rk v .bad e := fun G A fr ρ σ s env l Q E _ req => by
  rw [ax_bad] at req; exact req.elim

theorem x_ret {c : CE} {e : Expr} {pos : Pos} (h : EOk prog w K P T rk v c e) : XOk prog w K P T rk v (.ret c) (.Return (some e) pos) := fun G A fr ρ σ s env l Q E st req => by
  rw [ax_ret] at req
  exact wpAny_Return_some (h _ _ _ _ _ _ _ _ _ _ st.toSt (SReq.bind st.f req fun a σ₁ x ρ₁ s₁ o₁ rv req₁ => req₁.here (st.out o₁) rv))
theorem x_retNone {pos : Pos} : XOk prog w K P T rk v (.ret .none) (.Return none pos) := fun G A fr ρ σ s env l Q E st req => by
  rw [ax_ret, ae_none] at req
  exact wpAny_Return_none (SReq.here (l := l) req st (.none))

noncomputable def notComp (e : Expr) : Bool := e.ctorIdx != 8 && (e.ctorIdx != 9 && e.ctorIdx != 10)
theorem swaps_no {e : Expr} {t : Option Expr} {n : Nat} (h : notComp e = true) : swapsWith e t n env = pure false := by
  unfold swapsWith
  cases e <;> first | rfl | cases h

theorem x_expr {c : CE} {e : Expr} {pos : Pos} (hc : notComp e = true) (h : EOk prog w K P T rk v c e) : XOk prog w K P T rk v (.expr c) (.Expr e pos) := fun G A fr ρ σ s env l Q E st req => by
  rw [ax_expr] at req
  refine wpAny_Expr_any (h _ _ _ _ _ _ _ _ _ _ st.toSt (SReq.bind st.f req fun a σ₁ x ρ₁ s₁ o₁ rv req₁ => req₁.here (st.out o₁) trivial)) ?_ (swaps_no hc)
  unfold interactive; rw [st.f.kind]; rfl

theorem x_ite {c : CE} {t e : List CS} {x : Expr} {b o : List Stmt} {pos : Pos} (hc : TOk prog w K P T rk v c x) (ht : XsOk prog w K P T rk v t b) (he : XsOk prog w K P T rk v e o) : XOk prog w K P T rk v (.ite c t e) (.If x b o pos) := fun G A fr ρ σ s env l Q E st req => by
  rw [ax_ite] at req
  refine wpAny_If (hc _ _ _ _ _ _ _ _ _ _ st.toSt (SReq.bind st.f req fun a σ₁ x ρ₁ s₁ o₁ rv req₁ => ?_))
  cases rv
  cases a with
  | true => rw [if_pos rfl]; exact ht _ _ _ _ _ _ _ _ _ _ (st.out o₁) req₁
  | false => rw [if_neg (by decide)]; exact he _ _ _ _ _ _ _ _ _ _ (st.out o₁) req₁

theorem var_of {x : Str} {j : Nat} (st : StS prog w K P T rk v G A fr ρ σ s env l) (h : v.var x j = true) : x ∈ v.names ∧ (env.kindOf x = some .local ∨ env.kindOf x = some .cell) ∧ v.names.idxOf x = j := by
  unfold Ev.var at h
  simp only [Bool.and_eq_true, Bool.or_eq_true, beq_iff_eq, decide_eq_true_eq, bne_iff_ne] at h
  obtain ⟨⟨⟨h1, h2⟩, h3⟩, _⟩ := h
  refine ⟨?_, by rw [st.knd]; exact h1, h2⟩
  rw [← h2] at h3
  exact List.idxOf_lt_length_iff.mp h3

theorem x_assign {j : Nat} {c : CE} {x : Str} {e : Expr} {px pos : Pos} (hv : v.var x j = true) (hs : ∀ env : Env, env.scope.kind = .function → swapsWith e (some (.Name x px)) pos.line env = pure false) (h : EOk prog w K P T rk v c e) :
    XOk prog w K P T rk v (.assign j c) (.Assign [.Name x px] e pos) := fun G A fr ρ σ s env l Q E st req => by
  rw [ax_assign] at req
  obtain ⟨v1, v2, v3⟩ := var_of st hv
  refine wpAny_Assign_Name (h _ _ _ _ _ _ _ _ _ _ st.toSt (SReq.bind st.f req fun a σ₁ y ρ₁ s₁ o₁ rv req₁ => ?_)) (hs env st.f.kind)
  refine store_sound o₁.hr (st.out o₁).f v1 v2 rv fun s₂ o₂ f₂ => ?_
  rw [v3] at f₂
  exact req₁.1 _ ρ₁ s₂ o₂ trivial f₂

theorem Ex.shrink {fb ex ex' : Addr → Prop} {mu mu' : Addr → Prop} {h h' : Heap} (x : Ex fb ex' ρ mu h ρ' mu' h') (k : ∀ a, ex' a → (∃ o, h.get? a = some o) → ex a) : Ex fb ex ρ mu h ρ' mu' h' :=
  ⟨x.vk, x.dom, fun a o n q e => x.keep a o n (fun z => q (k a z ⟨o, e⟩)) e, x.frm⟩
theorem OutS.shrink {ex ex' : Addr → Prop} (x : OutS ex' G ρ σ s ρ' σ' s') (k : ∀ a, ex' a → (∃ o, s.heap.get? a = some o) → ex a) : OutS ex G ρ σ s ρ' σ' s' := ⟨x.hr, x.ext.shrink k, x.gens, x.os⟩

theorem x_assign_used {j : Nat} {c : CE} {n : Nat} {x : Str} {elt' : Expr} {gens : List Comprehension} {scope : Scope} {px pe pos : Pos} (hv : v.var x j = true) (h : chkC (chkE P K rk n) v c elt' gens scope = true)
    (st : StS prog w K P T rk v G A fr ρ σ s env l) (hs : swapsWith (.ListComp elt' gens scope pe) (some (.Name x px)) pos.line env = pure true) (req : SReq v.names env G ρ σ s (aexec T (.assign j c) l σ) Q E) :
    wpAny (model prog w) A (exec (.Assign [.Name x px] (.ListComp elt' gens scope pe) pos) env) Q E s := by
  revert hs
  refine s_comp (prog := prog) (w := w) (T := T) (M := fun gens => swapsWith (.ListComp elt' gens scope pe) (some (.Name x px)) pos.line env = pure true → wpAny (model prog w) A (exec (.Assign [.Name x px] (.ListComp elt' gens scope pe) pos) env) Q E s) (chk_sound n) h fun y py it' ifs m it elt cond h1 h2 h3 h4 h5 h6 hs => ?_
  rw [ax_assign, h6] at req
  obtain ⟨v1, v2, v3⟩ := var_of st hv
  rw [exec_Assign_Name_used _ _ _ _ hs]
  refine wpAny_bind (wpAny_standAt (wpAny_bind ?_))
  show wpAny _ A (do let _ ← comprehension (.ListComp elt' [⟨.Name y py, it', ifs, 0⟩] scope pe) scope env _ (PySem.newList []) false (eval it' env) (some (assign (.Name x px) env))) _ _ s
  have req' : Req G ρ σ s ((aeval T it l σ).bind fun src h => (loopComp src (cond l) (fun a h => aeval T elt (some a :: l) h) (srcLen src h + 1) 0 [] h).bind fun vs h => (newList m vs h).bind fun a h => .ok (a, h) h)
      (fun _ _ _ p q => p = q) (fun p _ => SReq v.names env G ρ σ s (.ok (.next, l.set j (some p.1)) p.2) Q E) E := by
    have e : ((aeval T it l σ).bind fun src h => (loopComp src (cond l) (fun a h => aeval T elt (some a :: l) h) (srcLen src h + 1) 0 [] h).bind fun vs h => (newList m vs h).bind fun a h => .ok (a, h) h) =
        ((aeval T it l σ).bind fun src h => (loopComp src (cond l) (fun a h => aeval T elt (some a :: l) h) (srcLen src h + 1) 0 [] h).bind fun vs h => newList m vs h).bind fun a h => .ok (a, h) h := by
      simp only [bind_assoc]
    rw [e]
    generalize ((aeval T it l σ).bind fun src h => (loopComp src (cond l) (fun a h => aeval T elt (some a :: l) h) (srcLen src h + 1) 0 [] h).bind fun vs h => newList m vs h) = r at req
    cases r with
    | ok a σ' => intro x ρ' s' _ e; subst e; exact req
    | exc c σ' => exact fun e ρ₁ s₁ o q => req.2 c rfl e ρ₁ s₁ o.s q (st.f.ext o.ext)
    | stuck => exact req
  refine wpAny_bind (wpAny_mono (comp_any (use := some (assign (.Name x px) env)) (Q := fun _ s' => Q .next s') h1 h2 h3 h4 h5 st.toSt req' fun vs v' σe σ'' ρ₁ σ₁ s₁ D C s' ρ' o₁ ce hn rq => ?_) (fun _ s' hq => wpAny_pure (wpAny_pure hq)) fun _ _ e => e)
  obtain ⟨ρ₂, q1, q2, q3⟩ := ce.value o₁.hr hn (Heap.SameBut.refl C s'.heap)
  have o₂ : Out G ρ σ s ρ₂ σ'' s' := o₁.trans q1
  have st₂ := st.out o₂
  have hC : s.heap.get? C = none := none_of_dom (fun a o e => o₁.ext.dom a o e) ce.fC
  have ownC : ∀ a, own env a → a ≠ C := fun a ha q => by
    obtain ⟨_, _, o, ho, _⟩ := st.f.own_not ha
    rw [q, hC] at ho; cases ho
  show wpAny _ A (assign (.Name x px) env (.ref D)) _ _ _
  refine wpAny_assign_Name (store_sound st₂.hr st₂.f v1 v2 q2 fun s₃ o₃ f₃ => ?_)
  obtain ⟨mm, oC, es, ep, hoC, hdC, hkC, hmC⟩ := ce.ns
  have hC₃ : ∃ o, s₃.heap.get? C = some o ∧ o.data = .dict es ep ∧ StrKeys es ∧ ∀ name, nsFind es name = mm name := by
    obtain ⟨_, _, sl, e⟩ := o₃.ext.keep C oC q3 (fun q => ownC C q rfl) hoC
    exact ⟨_, e, hdC, hkC, hmC⟩
  obtain ⟨o₄, ho₄, hd₄, hk₄, hm₄⟩ := hC₃
  refine ⟨mm, ⟨o₄, es, ep, ho₄, hd₄, hk₄, hm₄⟩, fun h₅ hs₅ => ?_⟩
  have hnv : ¬ isVal o₄ := fun v => by rcases v.2 with ⟨xs, n, q⟩ | ⟨vs, q⟩ <;> rw [hd₄] at q <;> cases q
  have hfb : ¬ G.fb C := fun q => by obtain ⟨o, e⟩ := st.hr.fbd C q; rw [hC] at e; cases e
  have o₃' : OutS (fun a => own env a ∨ s.heap.get? a = none) G ρ σ s ρ₂ σ'' s₃ := (o₂.s.trans o₃).mono fun a q => .inl q
  obtain ⟨X1, X2⟩ := OutS.endBut o₃' (.inr hC) hC q3 (not_base st.hr hC) hfb ho₄ hnv hs₅.extBut
  have f₅ : FR G v.names env (l.set j (some v')) ρ₂ (muts ρ₂ σ'') h₅ := by
    rw [v3] at f₃
    exact f₃.vk X2 fun b ob hb e nb => ⟨nb, fun _ => (hs₅.2 b (ownC b hb)).trans e, ob.slots, (hs₅.2 b (ownC b hb)).trans e⟩
  have sq : SReq v.names env G ρ σ s (.ok (.next, l.set j (some v')) σ'') Q E := rq (v', σ'') ρ₂ s' q1 rfl
  exact sq.1 _ ρ₂ _ (X1.shrink fun a q hq => q.elim id fun q => by obtain ⟨o, e⟩ := hq; rw [q] at e; cases e) trivial f₅

theorem swaps_attr {e a : Expr} {b : Str} {p : Pos} {n : Nat} : swapsWithSole [.Attribute a b p] e n env = pure false := by
  show swapsWith e (some (.Attribute a b p)) n env = pure false
  unfold swapsWith
  cases e <;> rfl
theorem swaps_sub {e a b : Expr} {p : Pos} {n : Nat} : swapsWithSole [.Subscript a b p] e n env = pure false := by
  show swapsWith e (some (.Subscript a b p)) n env = pure false
  unfold swapsWith
  cases e <;> rfl
theorem swapped_attr {e a : Expr} {b : Str} {p : Pos} : swappedStores [.Attribute a b p] e env = pure none := by
  unfold swappedStores
  first | rfl | (cases e <;> rfl)
theorem swapped_sub {e a b : Expr} {p : Pos} : swappedStores [.Subscript a b p] e env = pure none := by
  unfold swappedStores
  first | rfl | (cases e <;> rfl)

theorem x_setitem {o i c : CE} {x y e : Expr} {pa pos : Pos} (ho : EOk prog w K P T rk v o x) (hi : EOk prog w K P T rk v i y) (h : EOk prog w K P T rk v c e) :
    XOk prog w K P T rk v (.setitem o i c) (.Assign [.Subscript x y pa] e pos) := fun G A fr ρ σ s env l Q E st req => by
  rw [ax_setitem] at req
  refine wpAny_Assign_stores (h _ _ _ _ _ _ _ _ _ _ st.toSt (SReq.bind st.f req fun a σ₁ y' ρ₁ s₁ o₁ rv req₁ => ?_)) swaps_sub swapped_sub
  show wpAny _ _ (assign (.Subscript x y pa) env y') _ _ _
  rw [arm_assign_Subscript]
  refine wpAny_bind (wpAny_holding (ho _ _ _ _ _ _ _ _ _ _ (st.out o₁).toSt (SReq.bind (st.out o₁).f req₁ fun b σ₂ z ρ₂ s₂ o₂ rb req₂ => wpAny_bind (wpAny_holding (hi _ _ _ _ _ _ _ _ _ _ ((st.out o₁).out o₂).toSt (SReq.bind ((st.out o₁).out o₂).f req₂ fun d σ₃ z' ρ₃ s₃ o₃ rd req₃ => wpAny_bind (wpAny_standAt (wpAny_bind (wpAny_holding ?_)))))))))
  refine setitemop_sound o₃.hr (rb.ext o₃.ext) rd ((rv.ext o₂.ext).ext o₃.ext) (SReq.bind (((st.out o₁).out o₂).out o₃).f req₃ fun _ σ₄ _ ρ₄ s₄ o₄ _ req₄ => wpAny_release ?_)
  exact req₄.here ((((st.out o₁).out o₂).out o₃).out o₄) trivial

theorem loopFor_exc {src : V} {body : V → L → H → Res (Fl × L)} : ∀ (n k : Nat) (l : L) (h : H) (c : Nat) (h' : H), loopFor src body n k l h ≠ .exc c h'
  | 0, _, _, _, _, _ => fun e => by cases e
  | n + 1, k, l, h, c, h' => fun e => by
    unfold loopFor at e
    split at e
    · cases e
    · cases e
    · split at e
      · exact loopFor_exc n _ _ _ _ _ e
      · exact loopFor_exc n _ _ _ _ _ e
      · cases e
      · cases e
theorem x_for {j : Nat} {it : CE} {body : List CS} {x : Str} {iter : Expr} {b : List Stmt} {px pos : Pos} (hq : v.qt = 0) (hv : v.var x j = true) (hset : notSet iter = true) (hit : EOk prog w K P T rk v it iter) (hb : XsOk prog w K P T rk v body b) :
    XOk prog w K P T rk v (.for j it body) (.For (.Name x px) iter b [] pos) := fun G A fr ρ σ s env l Q E st req => by
  rw [ax_for] at req
  obtain ⟨v1, v2, v3⟩ := var_of st hv
  refine wpAny_For (hit _ _ _ _ _ _ _ _ _ _ st.toSt (SReq.bind st.f req fun src σ₁ xv ρ₁ s₁ o₁ rv req₁ => ?_)) (notSet_fold hset env)
  cases hl : loopFor src (fun v l h => aexecs T body (l.set j (some v)) h) (srcLen src σ₁ + 1) 0 l σ₁ with
  | stuck => rw [hl] at req₁; exact req₁.elim
  | exc c h' => exact absurd hl (loopFor_exc _ _ _ _ _ _)
  | ok a σe =>
  rw [hl] at req₁
  have hsrc : ∃ r, nextOf src 0 σ₁ = some r := by
    unfold loopFor at hl
    split at hl
    · cases hl
    · rename_i q; exact ⟨_, q⟩
    · rename_i q; exact ⟨_, q⟩
  refine iter_sound o₁.hr rv hsrc fun s₂ o₂ it₂ => ?_
  have st₁ := st.out o₁
  have st₂ := st₁.out o₂
  have hI₁ : s₁.heap.get? s₁.heap.objs.size = none := size_none _
  generalize s₁.heap.objs.size = I at it₂ hI₁ ⊢
  have hbI : G.base.get? I = none := not_base st₁.hr hI₁
  have hfbI : ¬ G.fb I := fun q => by obtain ⟨o, e⟩ := st₁.hr.fbd I q; rw [hI₁] at e; cases e
  have ownI : ∀ a, own env a → a ≠ I := fun a ha q => by
    obtain ⟨_, _, o, ho, _⟩ := st₁.f.own_not ha
    rw [q, hI₁] at ho; cases ho
  have toOwn : ∀ {ρ' : Pl} {σ' : H} {s' : Shared}, OutS (fun a => own env a ∨ s₁.heap.get? a = none) G ρ₁ σ₁ s₁ ρ' σ' s' → OutS (own env) G ρ₁ σ₁ s₁ ρ' σ' s' := fun o => o.shrink fun a q hq => q.elim id fun q => by obtain ⟨o, e⟩ := hq; rw [q] at e; cases e
  refine codeAny_forLoop (fun n s => ∃ k l' ρ' σ', loopFor src (fun v l h => aexecs T body (l.set j (some v)) h) n k l' σ' = .ok a σe ∧ OutS (fun a => own env a ∨ s₁.heap.get? a = none) G ρ₁ σ₁ s₁ ρ' σ' s ∧ ItR G ρ' (muts ρ' σ') s.heap src I k ∧ ¬ muts ρ' σ' I ∧
    FR G v.names env l' ρ' (muts ρ' σ') s.heap) (fun n s hI' => ?_) (srcLen src σ₁ + 1) ⟨0, l, ρ₁, σ₁, hl, o₂.s, it₂, not_muts st₁.hr hI₁, st₂.f⟩
  obtain ⟨k, l', ρ', σ', run, out, itr, nI, fr'⟩ := hI'
  cases n with
  | zero => cases run
  | succ n =>
    unfold loopFor at run
    split at run
    · cases run
    · rename_i hnx
      cases run
      refine next_sound (st.hok.none hq) out.hr itr nI hbI hnx (fun _ h' hx => wpAny_execs_nil ?_) fun v _ _ e => (by cases e)
      obtain ⟨oi', hoi', hnv', _⟩ := itr.notVal
      obtain ⟨X1, X2⟩ := OutS.endBut out (.inr hI₁) hI₁ nI hbI hfbI hoi' hnv' hx
      exact req₁.1 _ ρ' _ (toOwn X1) trivial (fr'.vk X2 fun b ob hb' e nb => ⟨nb, fun _ => hx b ob (ownI b hb') e, ob.slots, hx b ob (ownI b hb') e⟩)
    · rename_i y hnx
      refine next_sound (st.hok.none hq) out.hr itr nI hbI hnx (fun e => by cases e) fun y' yv s₃ e o₃ it₃ ry => ?_
      cases e
      have fr₃ : FR G v.names env l' ρ' (muts ρ' σ') s₃.heap := fr'.vk o₃.ext.vk fun b ob hb' e nb => o₃.ext.keep b ob nb (ownI b hb') e
      refine wpAny_assign_Name (store_sound o₃.hr fr₃ v1 v2 ry fun s₄ o₄ fr₄ => ?_)
      rw [v3] at fr₄
      obtain ⟨oi₃, hoi₃, hnv₃, hnf₃⟩ := it₃.notVal
      have hoi₄ : s₄.heap.get? I = some oi₃ := (o₄.ext.keep I oi₃ nI (fun q => ownI I q rfl) hoi₃).2.1 hnf₃
      have it₄ : ItR G ρ' (muts ρ' σ') s₄.heap src I (k + 1) := it₃.vk o₄.ext.vk fun o e => by rw [hoi₃] at e; cases e; exact hoi₄
      have out₄ : OutS (fun a => own env a ∨ s₁.heap.get? a = none) G ρ₁ σ₁ s₁ ρ' σ' s₄ := (out.trans (o₃.mono fun a e => .inr (by rw [e]; exact hI₁))).trans (o₄.mono fun a e => .inl e)
      have st₄ : StS prog w K P T rk v G A fr ρ' σ' s₄ env (l'.set j (some y)) := ⟨⟨st.Y, st.room, .inl (st.hok.none hq), st.frm, FrOk.ex out₄.ext st₁.fo, out₄.hr, st.knd, fr₄, st.hdf⟩, st.hd⟩
      refine hb _ _ _ _ _ _ _ _ _ _ st₄ ?_
      have again : ∀ {ρ₅ : Pl} {σ₅ : H} {s₅ : Shared} {l₅ : L}, OutS (own env) G ρ' σ' s₄ ρ₅ σ₅ s₅ → FR G v.names env l₅ ρ₅ (muts ρ₅ σ₅) s₅.heap → loopFor src (fun v l h => aexecs T body (l.set j (some v)) h) n (k + 1) l₅ σ₅ = .ok a σe →
          ∃ m, m < n + 1 ∧ ∃ k l' ρ' σ', loopFor src (fun v l h => aexecs T body (l.set j (some v)) h) m k l' σ' = .ok a σe ∧ OutS (fun a => own env a ∨ s₁.heap.get? a = none) G ρ₁ σ₁ s₁ ρ' σ' s₅ ∧ ItR G ρ' (muts ρ' σ') s₅.heap src I k ∧ ¬ muts ρ' σ' I ∧
            FR G v.names env l' ρ' (muts ρ' σ') s₅.heap := fun {ρ₅ σ₅ s₅ l₅} o₅ f₅ run => by
        obtain ⟨n5, e5, _⟩ := o₅.ext.keep I oi₃ nI (fun q => ownI I q rfl) hoi₄
        exact ⟨n, Nat.lt_succ_self _, k + 1, l₅, ρ₅, σ₅, run, out₄.trans (o₅.mono fun a e => .inl e), it₄.vk o₅.ext.vk fun o e => (by rw [hoi₄] at e; cases e; exact e5 hnf₃), n5, f₅⟩
      split at run
      · rename_i l₅ σ₅ hbd
        rw [hbd]
        refine SReq.plain (fun _ e => by cases e) fun x₅ ρ₅ s₅ o₅ hf f₅ => ?_
        cases x₅ <;> first | exact hf.elim | skip
        exact again o₅ f₅ run
      · rename_i l₅ σ₅ hbd
        rw [hbd]
        refine SReq.plain (fun _ e => by cases e) fun x₅ ρ₅ s₅ o₅ hf f₅ => ?_
        cases x₅ <;> first | exact hf.elim | skip
        exact again o₅ f₅ run
      · rename_i r₅ l₅ σ₅ hbd
        rw [hbd]
        cases run
        refine SReq.plain (fun _ e => by cases e) fun x₅ ρ₅ s₅ o₅ hf f₅ => ?_
        cases x₅ <;> first | exact hf.elim | skip
        exact req₁.1 _ ρ₅ s₅ (toOwn (out₄.trans (o₅.mono fun a e => .inl e))) hf f₅
      · cases run

theorem loopWhile_exc {cond : L → H → Res Bool} {body : L → H → Res (Fl × L)} : ∀ (n : Nat) (l : L) (h : H) (c : Nat) (h' : H), loopWhile cond body n l h ≠ .exc c h'
  | 0, _, _, _, _ => fun e => by cases e
  | n + 1, l, h, c, h' => fun e => by
    unfold loopWhile at e
    split at e
    · cases e
    · split at e
      · exact loopWhile_exc n _ _ _ _ e
      · exact loopWhile_exc n _ _ _ _ e
      · cases e
      · cases e
    · cases e

theorem x_while {c : CE} {body : List CS} {x : Expr} {b : List Stmt} {pos : Pos} (hc : TOk prog w K P T rk v c x) (hb : XsOk prog w K P T rk v body b) :
    XOk prog w K P T rk v (.while c body) (.While x b [] pos) := fun G A fr ρ σ s env l Q E st req => by
  rw [ax_while] at req
  refine wpAny_While ?_
  cases hl : loopWhile (fun l h => atrue T c l h) (fun l h => aexecs T body l h) 4096 l σ with
  | stuck => rw [hl] at req; exact req.elim
  | exc c h' => exact absurd hl (loopWhile_exc _ _ _ _ _)
  | ok a σe =>
  rw [hl] at req
  refine codeAny_whileLoop (fun n s' => ∃ l' ρ' σ', loopWhile (fun l h => atrue T c l h) (fun l h => aexecs T body l h) n l' σ' = .ok a σe ∧ OutS (own env) G ρ σ s ρ' σ' s' ∧ FR G v.names env l' ρ' (muts ρ' σ') s'.heap) (fun n s' hI' => ?_) 4096 ⟨l, ρ, σ, hl, OutS.refl st.hr, st.f⟩
  obtain ⟨l', ρ', σ', run, out, fr'⟩ := hI'
  cases n with
  | zero => cases run
  | succ n =>
    have st' := st.outS out fr'
    unfold loopWhile at run
    split at run
    · rename_i σ₅ hcd
      cases run
      refine hc _ _ _ _ _ _ _ _ _ _ st'.toSt ?_
      rw [hcd]
      intro t ρ₅ s₅ o₅ e
      subst e
      rw [if_neg (by decide)]
      exact wpAny_execs_nil (req.1 _ ρ₅ s₅ (out.trans o₅.s) trivial (fr'.ext o₅.ext))
    · rename_i σ₅ hcd
      refine hc _ _ _ _ _ _ _ _ _ _ st'.toSt ?_
      rw [hcd]
      intro t ρ₅ s₅ o₅ e
      subst e
      rw [if_pos rfl]
      refine hb _ _ _ _ _ _ _ _ _ _ (st'.out o₅) ?_
      split at run
      · rename_i l₆ σ₆ hbd
        rw [hbd]
        refine SReq.plain (fun _ e => by cases e) fun x₆ ρ₆ s₆ o₆ hf f₆ => ?_
        cases x₆ <;> first | exact hf.elim | skip
        exact ⟨n, Nat.lt_succ_self _, l₆, ρ₆, σ₆, run, (out.trans o₅.s).trans o₆, f₆⟩
      · rename_i l₆ σ₆ hbd
        rw [hbd]
        refine SReq.plain (fun _ e => by cases e) fun x₆ ρ₆ s₆ o₆ hf f₆ => ?_
        cases x₆ <;> first | exact hf.elim | skip
        exact ⟨n, Nat.lt_succ_self _, l₆, ρ₆, σ₆, run, (out.trans o₅.s).trans o₆, f₆⟩
      · rename_i r₆ l₆ σ₆ hbd
        rw [hbd]
        cases run
        refine SReq.plain (fun _ e => by cases e) fun x₆ ρ₆ s₆ o₆ hf f₆ => ?_
        cases x₆ <;> first | exact hf.elim | skip
        exact req.1 _ ρ₆ s₆ ((out.trans o₅.s).trans o₆) hf f₆
      · cases run
    · cases run

variable (K) in
noncomputable def ownNs (N : Addr) : Bool := nsIn K N "__init__" == some none && o1 (K.lookup N) fun o => dDict o.data fun es => es.toList.all fun e => vStr e.key fun _ => true
theorem ownNs_of {h : Heap} {N : Addr} (X : K.In h) (q : ownNs K N = true) : ∃ m, h.Ns N m ∧ m "__init__" = none := by
  obtain ⟨q1, q2⟩ := Bool.and_eq_true_iff.mp q
  obtain ⟨⟨oc, od, da, sl⟩, ho, q3⟩ := o1_of q2
  obtain ⟨es, ep, rfl, q4⟩ := dDict_of q3
  refine ⟨nsFind es, ⟨_, es, ep, X _ _ ho, rfl, fun e he => ?_, fun _ => rfl⟩, ?_⟩
  · obtain ⟨n, t, z, _⟩ := vStr_of (List.all_eq_true.mp q4 e (Array.mem_toList_iff.mpr he))
    exact ⟨n, t, z⟩
  · have e := beq_iff_eq.mp q1
    unfold nsIn at e
    rw [ho] at e
    dsimp only at e
    split at e
    · cases e
    · rename_i z
      unfold nsFind findBy
      rw [← Array.find?_toList, z]; rfl
variable (K) in
noncomputable def ownTail (bmB : List Value) : List Value → Bool
  | [] => bmB == []
  | v :: r => (v :: r) == bmB || vRef v fun A => o1 (K.lookup A) fun o => dCls o.data fun cd => ownNs K cd.ns && ownTail bmB r
theorem ownTail_of {h : Heap} {bmB : List Value} (X : K.In h) : ∀ {l : List Value}, ownTail K bmB l = true → OwnTail h bmB l
  | [], e => by rw [← beq_iff_eq.mp (show (bmB == []) = true from e)]; exact .base
  | v :: r, e => by
    rcases Bool.or_eq_true_iff.mp (show ((v :: r) == bmB || vRef v fun A => o1 (K.lookup A) fun o => dCls o.data fun cd => ownNs K cd.ns && ownTail K bmB r) = true from e) with q | q
    · rw [beq_iff_eq.mp q]; exact .base
    · obtain ⟨A, rfl, q1⟩ := vRef_of q
      obtain ⟨⟨oc, od, da, sl⟩, ho, q2⟩ := o1_of q1
      obtain ⟨cd, rfl, q3⟩ := dCls_of q2
      obtain ⟨q4, q5⟩ := Bool.and_eq_true_iff.mp q3
      obtain ⟨m, hm, hi⟩ := ownNs_of X q4
      exact .own (X _ _ ho) hm hi (ownTail_of X q5)
variable (K) in
noncomputable def ownExc (C : Addr) (bmB : List Value) (newId : String) : Bool := o1 (K.lookup C) fun o => o.cls == .type "type" && dCls o.data fun cd => (cd.mro == .ref C :: cd.mro.tail && ownTail K bmB cd.mro.tail) && (o.slots.toList.length == 6 && o.slots.toList[4]? == some (some (.builtin newId))) && !cd.hasDel && ownNs K cd.ns
theorem six {α : Type} {l : List α} {x : α} (h : l.length = 6) (e : l[4]? = some x) : ∃ a b c d f, l = [a, b, c, d, x, f] := by
  cases l with | nil => cases h | cons a l => cases l with | nil => cases h | cons b l => cases l with | nil => cases h | cons c l => cases l with | nil => cases h | cons d l => cases l with | nil => cases h | cons y l => cases l with | nil => cases h | cons f l =>
  cases l with
  | nil => cases e; exact ⟨a, b, c, d, f, rfl⟩
  | cons => cases h
theorem exc_of_in {h : Heap} {C : Addr} {bmB : List Value} {newId : String} (X : K.In h) (q : ownExc K C bmB newId = true) :
    ∃ bm N nm q bs hdct sn sub ab col dd k0 k1 k2 k3 k5 mN, h.get? C = some (excClassObj nm q C N bs bm hdct sn sub ab col dd k0 k1 k2 k3 k5 newId) ∧ h.Ns N mN ∧ mN "__init__" = none ∧ OwnTail h bmB bm := by
  obtain ⟨⟨oc, dd, da, sl⟩, ho, q1⟩ := o1_of q
  obtain ⟨e0, q2⟩ := Bool.and_eq_true_iff.mp q1
  obtain ⟨cd, rfl, q3⟩ := dCls_of q2
  simp only [Bool.and_eq_true, beq_iff_eq, Bool.not_eq_true'] at q3
  obtain ⟨⟨⟨⟨e1, ht⟩, e2, e3⟩, hdel⟩, hok⟩ := q3
  have e0' : oc = .type "type" := beq_iff_eq.mp e0
  obtain ⟨nm, bs, mro, ns, qn, hd, sn, sub, ab, col, del⟩ := cd
  obtain ⟨l⟩ := sl
  obtain ⟨k0, k1, k2, k3, k5, e4⟩ := six e2 e3
  dsimp only at hdel hok e1 ht e4
  subst hdel e0' e4
  obtain ⟨m, hN, hi⟩ := ownNs_of X hok
  generalize mro.tail = bm at e1 ht
  subst e1
  exact ⟨bm, ns, nm, qn, bs, hd, sn, sub, ab, col, dd, k0, k1, k2, k3, k5, m, X _ _ ho, hN, hi, ownTail_of X ht⟩

noncomputable def valueErr : List Value := [.type "ValueError", .type "Exception", .type "BaseException", .type "object"]

section
variable {nm q : Str} {C N : Addr} {bs bm bmB : List Value} {hdct : Bool} {sn : List Str} {sub : List Value} {ab : Bool} {col : Option Bool} {dd : Option Addr} {k0 k1 k2 k3 k5 : Option Value} {B newId initId : String}
theorem raiseStmt_made {M : Model} {x : Sem Value} (hbase : bm.contains (.type "BaseException") = true)
    (h : wpAny M A x (fun v s₁ => ∃ e t, v = .ref e ∧ s₁.heap.get? C = some (excClassObj nm q C N bs bm hdct sn sub ab col dd k0 k1 k2 k3 k5 newId) ∧
      s₁.heap.get? e = some { cls := .ref C, data := .fields #[.ref t, .none, .none, .none, .bool false, .none] } ∧ wpAny M A (raiseNew (.ref e) : Sem Flow) Q E s₁) E s) :
    wpAny M A (raiseStmt env (some x) none) Q E s := by
  have hcB : (Value.ref C :: bm).contains (.type "BaseException") = true := by rw [List.contains_cons, hbase, Bool.or_true]
  unfold raiseStmt
  refine wpAny_bind (wpAny_mono h (fun v s₁ h₁ => ?_) fun _ _ x => x)
  obtain ⟨e, t, rfl, hC, he, hE⟩ := h₁
  obtain ⟨hp, g, d, tk, os⟩ := s₁
  repeat (first | with_reducible refine wpAny_loadPart_at he ?_ | with_reducible refine wpAny_loadPart_at hC ?_ | (with_reducible refine wpAny_isSubtype_exc hC ?_; rw [hcB]) | exact hE | wp_step)
theorem Raise_made (F : ExcBaseFacts B newId initId bmB) {mN : Str → Option Value} {x : Str} {np cpos pos : Pos} {args : List Expr}
    (hbase : bm.contains (.type "BaseException") = true) (hplain : (backTo cpos (starEach args env)).any (·.1) = false) (hni : mN "__init__" = none)
    (h : wpAny (model prog w) A (eval (.Name x np) env) (fun f s₁ => f = .ref C ∧ wpAny (model prog w) A (evalArgs (.ref C) true (backTo cpos (starEach args env)) [])
      (fun a s₂ => a.kw = [] ∧ a.pos.length ≤ sizeLine ∧ s₂.heap.get? C = some (excClassObj nm q C N bs bm hdct sn sub ab col dd k0 k1 k2 k3 k5 newId) ∧ s₂.heap.Ns N mN ∧ OwnTail s₂.heap bmB bm ∧
        ∀ h' e, Heap.MadeExcOf s₂.heap h' e (.ref C) a.pos → wpAny (model prog w) A (raiseNew (.ref e) : Sem Flow) Q E { s₂ with heap := h' }) E s₁) E s) :
    wpAny (model prog w) A (exec (.Raise (some (.Call (.Name x np) args [] cpos)) none pos) env) Q E s := by
  rw [arm_exec_Raise]
  first
    | refine wpAny_bind (wpAny_standAt (raiseStmt_made (C := C) (nm := nm) (q := q) (N := N) (bs := bs) (bm := bm) (hdct := hdct) (sn := sn) (sub := sub) (ab := ab) (col := col) (dd := dd) (k0 := k0) (k1 := k1) (k2 := k2) (k3 := k3) (k5 := k5) (newId := newId) hbase (wpAny_bind (wpAny_mono (wpAny_Call_ofName (wpAny_mono h (fun f s₁ h₁ => ?_) fun _ _ x => x)) (fun v s₃ h₃ => wpAny_bind (wpAny_standAt (wpAny_pure h₃))) fun _ _ x => x))))
    | (simp only [evalOpt, Option.map]; refine wpAny_bind (wpAny_standAt (raiseStmt_made (C := C) (nm := nm) (q := q) (N := N) (bs := bs) (bm := bm) (hdct := hdct) (sn := sn) (sub := sub) (ab := ab) (col := col) (dd := dd) (k0 := k0) (k1 := k1) (k2 := k2) (k3 := k3) (k5 := k5) (newId := newId) hbase (wpAny_bind (wpAny_mono (wpAny_Call_ofName (wpAny_mono h (fun f s₁ h₁ => ?_) fun _ _ x => x)) (fun v s₃ h₃ => wpAny_bind (wpAny_standAt (wpAny_pure h₃))) fun _ _ x => x)))))
    | (refine wpAny_bind (wpAny_standAt (raiseStmt_made (C := C) (nm := nm) (q := q) (N := N) (bs := bs) (bm := bm) (hdct := hdct) (sn := sn) (sub := sub) (ab := ab) (col := col) (dd := dd) (k0 := k0) (k1 := k1) (k2 := k2) (k3 := k3) (k5 := k5) (newId := newId) hbase ?_)); refine wpAny_bind (wpAny_mono (wpAny_Call_ofName (wpAny_mono h (fun f s₁ h₁ => ?_) fun _ _ x => x)) (fun v s₃ h₃ => wpAny_bind (wpAny_standAt (wpAny_pure h₃))) fun _ _ x => x))
  obtain ⟨rfl, h₁⟩ := h₁
  unfold callWith
  refine wpAny_bind (wpAny_holding (wpAny_mono h₁ (fun a s₂ h₂ => wpAny_bind (wpAny_standAt ?_)) fun _ _ x => x))
  obtain ⟨apos, akw⟩ := a
  obtain ⟨hkw, hlen, hC, hn, T, h₂⟩ := h₂
  obtain rfl : akw = [] := hkw
  obtain ⟨hp, g, d, tk, os⟩ := s₂
  simp only [hplain]
  refine wpAny_bind (wpAny_keeperOf_exc hC ?_)
  refine wpAny_bind (wpAny_call_exc_subT (hrest := hlen) F T hC hn hni fun h' e hm => wpAny_bind (wpAny_holding (wpAny_point (wpAny_pure ?_))))
  obtain ⟨t, ht, _, _⟩ := hm.there
  exact ⟨e, t, rfl, hm.keeps _ _ hC, ht, h₂ h' e hm⟩
end

theorem entry_unchain : entryFor table "proto.unchain" = some Builtin.«proto.unchain» := entryFor_of_tree (by kernel_rfl)
theorem raiseNew_flat {e e₁ : Addr} {o₁ oe : Obj} {vs ws : Array Value} (hh : A.handled = some (.ref e₁)) (hne : e₁ ≠ e) (h1 : s.heap.get? e₁ = some o₁) (hd1 : o₁.data = .fields vs) (hc1 : vs[2]? = some .none)
    (he : s.heap.get? e = some oe) (hde : oe.data = .fields ws) (hsz : 2 < ws.size) (h : E (.ref e) { s with heap := s.heap.update e (Obj.mapFields (·.setIfInBounds 2 (.ref e₁))) }) : wpAny (model prog w) A (raiseNew (.ref e) : Sem Flow) Q E s := by
  unfold raiseNew
  refine wpAny_bind (wpAny_handled ?_)
  rw [hh]
  dsimp only
  rw [if_pos (show (Value.ref e₁ != Value.ref e) = true from by simp [hne])]
  refine wpAny_bind (wpAny_holding (wpAny_runValue (codeAny_builtin entry_unchain ?_)))
  unfold Builtin.«proto.unchain»
  dsimp only
  refine wpAny_bind (wpAny_field h1 hd1 hc1 ?_)
  rw [if_pos (by decide)]
  refine wpAny_bind (wpAny_pure ?_)
  refine wpAny_pure ?_
  dsimp only
  unfold updateField
  refine wpAny_bind (wpAny_bind (wpAny_load he ?_))
  rw [hde]
  dsimp only
  rw [if_pos hsz]
  exact wpAny_update he (wpAny_throw h)

theorem x_raise {c kd : Nat} {x msg : Str} {ps np cpos pos : Pos} (hv : v.glob x = true) (hc : nsIn K mainGlobals x = some (some (.ref (P.clsOf c)))) (hx : ownExc K (P.clsOf c) valueErr "ValueError.__new__" = true) (hm : PyData.strOk msg = true) (hq : v.qt = 0 ∨ v.qt = 1 ∧ P.flatOf c = false) :
    XOk prog w K P T rk v (.raise c) (.Raise (some (.Call (.Name x np) [.Constant (.str msg) kd ps] [] cpos)) none pos) := fun G A fr ρ σ s env l Q E st req => by
  rw [ax_raise] at req
  simp only [Ev.glob, Bool.and_eq_true, beq_iff_eq, bne_iff_ne] at hv
  have hbase : (valueErr).contains (.type "BaseException") = true := by decide
  obtain ⟨bm, N, nm, q, bs, hdct, sn, sub, ab, col, dd, k0, k1, k2, k3, k5, mN, hC, hN, hni, TL⟩ := exc_of_in st.Y.W.X hx
  have hst : notStar (.Constant (.str msg) kd ps) = true := rfl
  refine Raise_made (C := P.clsOf c) F.excBase_ValueError (bm := bm) (nm := nm) (q := q) (N := N) (bs := bs) (hdct := hdct) (sn := sn) (sub := sub) (ab := ab) (col := col) (dd := dd) (k0 := k0) (k1 := k1) (k2 := k2) (k3 := k3) (k5 := k5) (mN := mN)
    (TL.hasType hbase) (by rw [starEach_cons hst]; rfl) hni ?_
  refine glob_load st.Y.W st.hr st.f (by rw [st.knd]; exact hv.1) (by simpa using hv.2) hc ⟨rfl, ?_⟩
  have hE : EOk prog w K P T rk v (.str msg) (.Constant (.str msg) kd ps) := (chk_sound 1 _ _ _ (by show (msg == msg && PyData.strOk msg) = true; rw [hm]; simp)).1
  rw [starEach_cons hst]
  refine Calls.evalArgs_plain (Calls.spliced_cons (hE _ _ _ _ _ _ _ _ _ _ st.toSt ?_))
  rw [ae_str]
  intro y ρ' s' o rv
  refine Calls.spliced_nil ⟨rfl, (show 1 ≤ sizeLine by decide), o.hr.stays _ _ hC, hN.keeps o.hr.stays, TL.keeps o.hr.stays, fun h' e hm => ?_⟩
  obtain ⟨t, he, _, _⟩ := hm.there
  have o' : Out G ρ σ s ρ' σ { s' with heap := h' } := o.trans (Out.keeps (tk := s'.toks) o.hr hm.keeps)
  have hok := st.hok.ext o'.ext
  by_cases hn : A.handled = none
  · exact wpAny_raiseNew_none hn (req.2 c rfl e ρ' _ o'.s ⟨none_of_dom o.ext.dom hm.new, not_muts o.hr hm.new, not_base o.hr hm.new, _, _, he, by rw [st.Y.cl], rfl, fun _ => rfl, .inl rfl⟩ (st.f.ext o'.ext))
  have hq' : v.qt = 1 ∧ P.flatOf c = false := hq.resolve_left fun z => hn (hok.none z)
  rcases hok with q | q | ⟨_, e₁, o₁, vs, C₁, q1, q2, q3, q4, q5, q6⟩
  · exact absurd q hn
  · lia
  have hne : e₁ ≠ e := fun z => by
    rcases st.hok with q | q | ⟨_, e₂, o₂, vs₂, C₂, r1, r2, r3, _⟩
    · exact hn q
    · lia
    · rw [q1] at r1; cases r1
      obtain ⟨o₃, r4⟩ := o.ext.dom _ _ r3
      rw [z, hm.new] at r4; cases r4
  refine raiseNew_flat q1 hne q3 q5 q6 he rfl (show 2 < 6 by decide) ?_
  have he' := Heap.get?_update_self (Obj.mapFields (·.setIfInBounds 2 (.ref e₁))) he rfl
  have kp : ∀ b ob, s'.heap.get? b = some ob → (h'.update e (Obj.mapFields (·.setIfInBounds 2 (.ref e₁)))).get? b = some ob := fun b ob z => by
    rw [Heap.get?_update_other _ _ (fun y => by rw [← y, hm.new] at z; cases z)]
    exact hm.keeps b ob z
  have o'' : Out G ρ σ s ρ' σ { s' with heap := h'.update e (Obj.mapFields (·.setIfInBounds 2 (.ref e₁))) } := o.trans (Out.keeps (tk := s'.toks) o.hr kp)
  exact req.2 c rfl e ρ' _ o''.s ⟨none_of_dom o.ext.dom hm.new, not_muts o.hr hm.new, not_base o.hr hm.new, _, _, he', by rw [st.Y.cl]; rfl, rfl, (fun z => by rw [st.Y.fl, hq'.2] at z; cases z), .inl rfl⟩ (st.f.ext o''.ext)

theorem flight_same {M : Model} {h₀ : Heap} {mu : Addr → Prop} {c : Nat} {e : Addr} {Q : Unit → Shared → Prop} (er : ERN G h₀ mu s.heap c e) (k : ∀ h', (∀ b o, s.heap.get? b = some o → h'.get? b = some o) → Q () { s with heap := h' }) : wpAny M A (setFlight (.ref e) none) Q E s := by
  obtain ⟨oe, vs, he, hc, hd, _, ht⟩ := er.obj
  unfold setFlight
  rcases ht with h1 | ⟨T, oT, ts, h1, hTe, hT0, hTm, hTb, hT, hTc, hTd, h3⟩
  · refine wpAny_bind (wpAny_field he hd h1 ?_)
    rw [if_neg (by decide)]
    exact wpAny_pure (k s.heap fun _ _ q => q)
  · refine wpAny_bind (wpAny_field he hd h1 ?_)
    rw [if_pos (show (Value.ref T != Value.none) = true from by simp)]
    refine wpAny_setField hT hTd (Array.getElem?_eq_some_iff.mp h3).1 (k _ fun b o q => ?_)
    by_cases z : b = T
    · rw [z] at q ⊢
      rw [hT] at q; cases q
      have hd' := Obj.data_mapFields hTd (·.setIfInBounds 3 ((none : Option Addr).elim Value.none fun f => rawInt f))
      rw [Heap.get?_update_self _ hT (Obj.isFreed_of_fields hd')]
      congr 1
      obtain ⟨c0, d0, dt, sl⟩ := oT
      subst hTd
      unfold Obj.mapFields
      have : ts.setIfInBounds 3 ((none : Option Addr).elim Value.none fun f => rawInt f) = ts := by
        apply Array.ext_getElem?
        intro i
        rw [Array.getElem?_setIfInBounds]
        split
        · rename_i z
          subst z
          rw [h3]
          first | rfl | (split <;> first | rfl | (rename_i y; exact absurd (Array.getElem?_eq_some_iff.mp h3).1 y))
        · rfl
      dsimp only
      rw [this]
    · rw [Heap.get?_update_other _ _ (Ne.symm z)]; exact q

theorem ERg.keeps {N : Array Value → Prop} {h₀ h h' : Heap} {mu : Addr → Prop} {c : Nat} {e : Addr} (x : ERg N G h₀ mu h c e) (k : ∀ b o, h.get? b = some o → h'.get? b = some o) : ERg N G h₀ mu h' c e := by
  obtain ⟨oe, vs, a, b, d, fl, r⟩ := x.obj
  exact ⟨x.new, x.nmu, x.nb, oe, vs, k _ _ a, b, d, fl, r.imp id fun ⟨T, oT, ts, q1, q2, q3, q4, q5, q6, q⟩ => ⟨T, oT, ts, q1, q2, q3, q4, q5, k _ _ q6, q⟩⟩

noncomputable def excAll (K : Frag) (P : PI) (cs : List Nat) : Bool := cs.all fun c => decide (c < P.cls.length) && ((clsIn K (P.clsOf c)).isSome && subIn K (.ref (P.clsOf c)) (.type "BaseException") == some true)
theorem looks_isExc {M : Model} {h : Heap} {C : Addr} (X : K.In h) (h1 : (clsIn K C).isSome = true) (h2 : subIn K (.ref C) (.type "BaseException") = some true) : Looks M h (isExcClass (.ref C)) true := by
  unfold isExcClass
  have LT : Looks M h (isType (.ref C)) true := by
    unfold clsIn at h1
    split at h1
    · rename_i ho
      unfold isType
      exact (Looks.ld (X _ _ ho)).andThen .now
    · cases h1
  exact LT.andThen (by rw [if_pos rfl]; exact looks_subIn X h2)

theorem forIn_pass {M : Model} {α : Type} {f : α → PUnit → Sem (ForInStep PUnit)} {Q : PUnit → Shared → Prop} : ∀ {l : List α}, (∀ a ∈ l, ∀ Q' : ForInStep PUnit → Shared → Prop, Q' (.yield ⟨⟩) s → wpAny M A (f a ⟨⟩) Q' E s) → Q ⟨⟩ s → wpAny M A (forIn l ⟨⟩ f) Q E s
  | [], _, hq => by rw [List.forIn_nil]; exact wpAny_pure hq
  | a :: l, h, hq => by
    rw [List.forIn_cons]
    exact wpAny_bind (h a (.head _) _ (forIn_pass (fun b hb => h b (.tail _ hb)) hq))
theorem forIn_find {M : Model} {α : Type} {f : α → Option Bool × Unit → Sem (ForInStep (Option Bool × Unit))} {p : α → Bool} {Q : Option Bool × Unit → Shared → Prop} : ∀ {l : List α},
    (∀ a ∈ l, ∀ Q' : ForInStep (Option Bool × Unit) → Shared → Prop, Q' (if p a then .done (some true, ()) else .yield (none, ())) s → wpAny M A (f a (none, ())) Q' E s) → Q (if l.any p then some true else none, ()) s → wpAny M A (forIn l (none, ()) f) Q E s
  | [], _, hq => by rw [List.forIn_nil]; exact wpAny_pure hq
  | a :: l, h, hq => by
    rw [List.forIn_cons]
    refine wpAny_bind (h a (.head _) _ ?_)
    rw [List.any_cons] at hq
    cases hp : p a with
    | true => rw [hp] at hq; exact wpAny_pure hq
    | false => rw [hp] at hq; exact forIn_find (fun b hb => h b (.tail _ hb)) hq

theorem match_loops {M : Model} {e C : Addr} {oe : Obj} {cs m : List Nat} {Q : Bool → Shared → Prop} (X : K.In s.heap) (he : s.heap.get? e = some oe) (hcl : oe.cls = .ref C) (ms : ∀ d, d < P.cls.length → subIn K (.ref C) (.ref (P.clsOf d)) = some (m.contains d))
    (hcs : excAll K P cs = true) (h : Q (cs.any m.contains) s) : wpAny M A (do
      for c in cs.map fun c => Value.ref (P.clsOf c) do
        if !(← isExcClass c) then
          rule "try.except-non-exception-class"
          raiseError "TypeError" "catching classes that do not inherit from BaseException is not allowed"
      let te ← typeOf (.ref e)
      for c in cs.map fun c => Value.ref (P.clsOf c) do
        if ← isSubtype te c then return true
      return false) Q E s := by
  have al := List.all_eq_true.mp hcs
  obtain ⟨hh, g, d, tk, os⟩ := s
  refine wpAny_bind (forIn_pass (fun a ha Q' hq => ?_) ?_)
  · obtain ⟨c, hc, rfl⟩ := List.mem_map.mp ha
    have h1 := and_of (al c hc); have h2 := and_of h1.2
    refine wpAny_bind ((looks_isExc X h2.1 (eq_of_beq h2.2)).at ?_)
    simp only [Bool.not_true, Bool.false_eq_true, if_false]
    exact wpAny_pure hq
  have ht : Looks M hh (typeOf (.ref e)) (.ref C) := hcl ▸ (Looks.ld he).andThen .now
  refine wpAny_bind (ht.at ?_)
  have e1 : ∀ c ∈ cs, ∃ v, subIn K (.ref C) (.ref (P.clsOf c)) = some v ∧ v = m.contains c := fun c hc => ⟨_, ms c (of_decide_eq_true (and_of (al c hc)).1), rfl⟩
  refine wpAny_bind (forIn_find (p := fun x => subIn K (.ref C) x == some true) (fun a ha Q' hq => ?_) ?_)
  · obtain ⟨c, hc, rfl⟩ := List.mem_map.mp ha
    obtain ⟨v, z, _⟩ := e1 c hc
    refine wpAny_bind ((looks_subIn X z).at ?_)
    rw [z] at hq
    cases v with
    | true => exact wpAny_pure hq
    | false => exact wpAny_pure hq
  · have : (cs.map fun c => Value.ref (P.clsOf c)).any (fun x => subIn K (.ref C) x == some true) = cs.any m.contains := by
      rw [List.any_map]
      clear h al
      induction cs with
      | nil => rfl
      | cons c cs ih =>
        rw [List.any_cons, List.any_cons, ih (by rw [excAll, List.all_cons] at hcs; exact (Bool.and_eq_true_iff.mp hcs).2) fun c hc => e1 c (.tail _ hc)]
        obtain ⟨v, z, q⟩ := e1 c (.head _)
        show ((subIn K (.ref C) (.ref (P.clsOf c)) == some true) || _) = _
        rw [z, q]
        cases m.contains c <;> rfl
    rw [this]
    cases q : cs.any m.contains with
    | true => rw [q] at h; exact wpAny_pure h
    | false => rw [q] at h; exact wpAny_pure h
theorem matches_one {M : Model} {e C : Addr} {oe : Obj} {c : Nat} {m : List Nat} {Q : Bool → Shared → Prop} (X : K.In s.heap) (he : s.heap.get? e = some oe) (hcl : oe.cls = .ref C) (ms : ∀ d, d < P.cls.length → subIn K (.ref C) (.ref (P.clsOf d)) = some (m.contains d))
    (hcs : excAll K P [c] = true) (hi : instIn K (.ref (P.clsOf c)) (.type "tuple") = some false) (h : Q ([c].any m.contains) s) : wpAny M A (excMatches (.ref e) (.ref (P.clsOf c))) Q E s := by
  have L := match_loops (M := M) (A := A) (E := E) X he hcl ms hcs h
  obtain ⟨hh, g, d, tk, os⟩ := s
  unfold excMatches
  refine wpAny_bind ((looks_instIn X hi).at ?_)
  dsimp only
  rw [if_neg (by decide)]
  exact wpAny_bind (wpAny_pure L)

noncomputable def chkT (K : Frag) (P : PI) (v : Ev) (cs : List Nat) (t : Expr) : Bool := excAll K P cs && (eName t fun x => l1 cs fun c => v.glob x && (nsIn K mainGlobals x == some (some (.ref (P.clsOf c))) && instIn K (.ref (P.clsOf c)) (.type "tuple") == some false))
theorem test_sound {t : Expr} {cs m : List Nat} {c : Nat} {e : Addr} {QB : Bool → Shared → Prop} {EE : Value → Shared → Prop} (W : Wld G K) (hcl : G.cls = P.clsOf) (hknd : ∀ x, env.kindOf x = v.kind x) (h : chkT K P v cs t = true)
    (ms : ∀ d, d < P.cls.length → subIn K (.ref (P.clsOf c)) (.ref (P.clsOf d)) = some (m.contains d)) (o : OutS (own env) G ρ σ s ρ' σ' s') (er : ERN G s.heap (muts ρ' σ') s'.heap c e) (f : FR G v.names env l ρ' (muts ρ' σ') s'.heap)
    (k : ∀ s'', OutS (own env) G ρ σ s ρ' σ' s'' → ERN G s.heap (muts ρ' σ') s''.heap c e → FR G v.names env l ρ' (muts ρ' σ') s''.heap → QB (cs.any m.contains) s'') :
    wpAny (model prog w) A (eval t env) (fun x s₁ => wpAny (model prog w) A (excMatches (.ref e) x) QB EE s₁) EE s' := by
  have h0 := and_of h
  refine eName_el (fun t => wpAny (model prog w) A (eval t env) (fun x s₁ => wpAny (model prog w) A (excMatches (.ref e) x) QB EE s₁) EE s') h0.2 fun x px h1 => ?_
  have hcs := h0.1
  clear h0 h
  revert ms k
  revert hcs
  refine l1_el (fun cs => excAll K P cs = true → (∀ d, d < P.cls.length → subIn K (.ref (P.clsOf c)) (.ref (P.clsOf d)) = some (m.contains d)) → (∀ s'', OutS (own env) G ρ σ s ρ' σ' s'' → ERN G s.heap (muts ρ' σ') s''.heap c e → FR G v.names env l ρ' (muts ρ' σ') s''.heap → QB (cs.any m.contains) s'') →
    wpAny (model prog w) A (eval (.Name x px) env) (fun x s₁ => wpAny (model prog w) A (excMatches (.ref e) x) QB EE s₁) EE s') h1 fun d h1 hcs ms k => ?_
  have h2 := and_of h1; have h3 := and_of h2.2
  have hg := h2.1
  simp only [Ev.glob, Bool.and_eq_true, beq_iff_eq, bne_iff_ne] at hg
  obtain ⟨oe, vs, he, hc, _⟩ := er.obj
  refine glob_load (G := G) (ρ := ρ') (σ := σ') (l := l) (names := v.names) W o.hr f (by rw [hknd]; exact hg.1) (by simpa using hg.2) (eq_of_beq h3.1) ?_
  exact matches_one (W.here o.hr) he (by rw [hc, hcl]) ms hcs (eq_of_beq h3.2) (k _ o er f)

theorem nsDelC {M : Model} {a : Addr} {m : Str → Option Value} {name : Str} {Q : Bool → Shared → Prop} (hn : s.heap.Ns a m)
    (hQ : ∀ h' m', h'.Ns a m' → Heap.SameBut a s.heap h' → (∀ o, s.heap.get? a = some o → ∃ o', h'.get? a = some o' ∧ o'.cls = o.cls) → Q (m name).isSome { s with heap := h' }) : wpAny M A (nsDel a name) Q E s := by
  obtain ⟨o, es, ep, ho, hd, hk, hm⟩ := id hn
  have hany : es.any (·.refKey) = false := by
    rw [Array.any_eq_false']; intro e he; obtain ⟨n, t, h⟩ := hk e he; simp [DictEntry.refKey, h]
  have hsome : (m name).isSome = es.any (·.key.isStr name) := by
    rw [← hm name]; simp only [nsFind, findBy, Option.isSome_map]
    rw [Bool.eq_iff_iff]; simp only [Array.find?_isSome, Array.any_eq_true]
    constructor
    · rintro ⟨x, hx, hp⟩; obtain ⟨i, hi, rfl⟩ := Array.mem_iff_getElem.mp hx; exact ⟨i, hi, hp⟩
    · rintro ⟨i, hi, hp⟩; exact ⟨_, Array.getElem_mem hi, hp⟩
  have hhas : nsHas name o = pure (es.any (·.key.isStr name)) := by
    rw [nsHas_eq]; unfold nsHasByArray; rw [hd]
    show (if (es.any fun x => x.key.isStr name) = true then _ else _) = _
    generalize (es.any fun x => x.key.isStr name) = b
    cases b <;> simp [hany]
  unfold nsDel
  refine wpAny_bind (wpAny_loadPart ho ?_)
  rw [hhas]
  refine wpAny_bind (wpAny_pure ?_)
  rw [← hsome]
  cases hmn : (m name).isSome
  · have := hQ s.heap m hn (.refl ..) fun o e => ⟨o, e, rfl⟩
    rw [hmn] at this
    exact wpAny_pure this
  · refine wpAny_bind (wpAny_updatePart ho (wpAny_pure ?_))
    have key : ∃ m', (s.heap.update a (Obj.dropName name)).Ns a m' ∧ ∀ o', s.heap.get? a = some o' → ∃ o'', (s.heap.update a (Obj.dropName name)).get? a = some o'' ∧ o''.cls = o'.cls := by
      obtain ⟨cl, d, dt, sl⟩ := o
      subst hd
      cases hi : es.findIdx? (·.key.isStr name) with
      | some i =>
        have g := Heap.get?_update_self (Obj.dropName name) ho (by simp only [Obj.dropName_eq, Obj.dropNameByArray, hi] <;> rfl)
        exact ⟨nsFind (es.eraseIdxIfInBounds i), ⟨_, _, ep + 1, g, (by simp only [Obj.dropName_eq, Obj.dropNameByArray, hi] <;> rfl), hk.erase i, fun x => rfl⟩, fun o' e => ⟨_, g, by rw [ho] at e; cases e; simp only [Obj.dropName_eq, Obj.dropNameByArray, hi]⟩⟩
      | none =>
        have g := Heap.get?_update_self (Obj.dropName name) ho (by simp only [Obj.dropName_eq, Obj.dropNameByArray, hi] <;> rfl)
        exact ⟨nsFind es, ⟨_, _, ep, g, (by simp only [Obj.dropName_eq, Obj.dropNameByArray, hi] <;> rfl), hk, fun x => rfl⟩, fun o' e => ⟨_, g, by rw [ho] at e; cases e; simp only [Obj.dropName_eq, Obj.dropNameByArray, hi]⟩⟩
    obtain ⟨m', hv, hcl⟩ := key
    have := hQ _ m' hv (Heap.SameBut.update ..) hcl
    rw [hmn] at this
    exact this

theorem FR.forget (r : FR G names env l ρ (muts ρ σ) s.heap) {h' : Heap} {m' : Str → Option Value} (hn : h'.Ns env.locals m') (hs : Heap.SameBut env.locals s.heap h') : FR G names env (l.map fun _ => none) ρ (muts ρ σ) h' := by
  have no : ∀ {k : Nat} {a : V}, (l.map fun _ => (none : Option V))[k]? = some (some a) → False := fun {k a} q => by
    rw [List.getElem?_map] at q
    cases z : l[k]? with
    | none => rw [z] at q; cases q
    | some y => rw [z] at q; cases q
  refine ⟨r.kind, r.glob, r.blt, by simpa using r.len, ⟨m', hn, fun x a _ q => (no q).elim⟩, r.locN, r.locB, fun y c e => ?_, r.celK, r.celA⟩
  obtain ⟨q1, q2, q3, z, o, ho, hc, hd, _⟩ := r.cel y c e
  exact ⟨q1, q2, q3, z, o, (hs.2 c q2).trans ho, hc, hd, fun a _ q => (no q).elim⟩

theorem name_goes {M : Model} {n : Str} {pos : Pos} {Q : Unit → Shared → Prop} (hr : HR G ρ σ s.heap) (r : FR G names env l ρ (muts ρ σ) s.heap) (hx : n ∈ names) (hk : env.kindOf n = some .local)
    (h : ∀ s', OutS (own env) G ρ σ s ρ σ s' → FR G names env (l.map fun _ => none) ρ (muts ρ σ) s'.heap → Q () s') : wpAny M A (do bindName env n .none; unbindBehindTheSuite env n pos) Q E s := by
  have hp : (env.scope.kind == .class || (env.scope.kind == .module && env.locals != env.globals)) = false := by rw [r.kind]; rfl
  refine wpAny_bind (wpAny_bindName (store_local hr r hx hk .none fun s₁ o₁ f₁ => ?_))
  unfold unbindBehindTheSuite
  refine wpAny_onRaise ?_
  unfold unbindName
  refine wpAny_bind (wpAny_point (wpAny_bind ?_))
  unfold deleteName
  simp only [hk, hp]
  rw [if_neg (by decide)]
  obtain ⟨m, hn, hv⟩ := f₁.loc
  obtain ⟨y, hy, _⟩ := hv n .none hk (by rw [List.getElem?_set_self (by rw [r.len]; exact List.idxOf_lt_length_of_mem hx)])
  obtain ⟨o, es, ep, ho, hd, _⟩ := id hn
  refine wpAny_bind (nsDelC hn fun h₂ m₂ hn₂ hs₂ hc₂ => ?_)
  rw [hy]
  simp only [Option.isSome_some, Bool.not_true, Bool.false_eq_true, if_false]
  obtain ⟨o₂, ho₂, hcl₂⟩ := hc₂ _ ho
  obtain ⟨o₂', es₂, ep₂, ho₂', hd₂, _⟩ := id hn₂
  rw [ho₂] at ho₂'; cases ho₂'
  have hnv : ¬ isVal o := fun v => by rcases v.2 with ⟨xs, n, q⟩ | ⟨vs, q⟩ <;> rw [hd] at q <;> cases q
  have X := HR.own (ex := own env) o₁.hr f₁.locN f₁.locB ho (.inl hnv) ho₂ hs₂ (.inl rfl) fun c => ⟨hcl₂.trans c, fun vs z => by rw [hd₂] at z; cases z⟩
  have f₂ := f₁.forget hn₂ hs₂
  rw [show ((l.set (names.idxOf n) (some V.none)).map fun _ => (none : Option V)) = l.map fun _ => none from by rw [List.map_const', List.map_const', List.length_set]] at f₂
  exact wpAny_pure (wpAny_point (h { s₁ with heap := h₂ } ((o₁.mono fun a q => .inl q).trans ⟨X.1, X.2, rfl, rfl⟩) f₂))

theorem SReq.noExc {r : Res (Fl × L)} {E' : Value → Shared → Prop} (h : SReq names env G ρ σ s (noExc r) Q E) : SReq names env G ρ σ s r Q E' := by
  cases r with
  | ok a σ' =>
    obtain ⟨f, l'⟩ := a
    cases f with
    | exc c => exact h.elim
    | next => exact ⟨h.1, fun c q => by cases q⟩
    | cont => exact ⟨h.1, fun c q => by cases q⟩
    | ret v => exact ⟨h.1, fun c q => by cases q⟩
  | exc c σ' => exact h.elim
  | stuck => exact h.elim

noncomputable def chkHs (K : Frag) (P : PI) (chk : Ev → List CS → List Stmt → Bool) (v : Ev) : List CH → List ExceptHandler → Bool
  | [], _ => true
  | .mk cs nm body :: hs, .ExceptHandler t nm' b _ :: es => (o1 t fun t => chkT K P v cs t) && (!b.isEmpty && ((match nm, nm' with
      | none, none => chk { v with qt := 1 } body b
      | some j, some n => v.var n j && (v.kind n == some .local && chk { v with qt := 2 } body b)
      | _, _ => false) && chkHs K P chk v hs es))
  | _, _ => false

theorem handle_sound {chk : Ev → List CS → List Stmt → Bool} (hchk : ∀ v c e, chk v c e = true → XsOk prog w K P T rk v c e) {c : Nat} {e : Addr} {l₁ : L} {ρ₁ : Pl} {σ₁ : H} (st : StS prog w K P T rk v G A fr ρ σ s env l) : ∀ {hs : List CH} {es : List ExceptHandler} {s₁ : Shared}, chkHs K P chk v hs es = true →
    OutS (own env) G ρ σ s ρ₁ σ₁ s₁ → ERN G s.heap (muts ρ₁ σ₁) s₁.heap c e → FR G v.names env l₁ ρ₁ (muts ρ₁ σ₁) s₁.heap → SReq v.names env G ρ σ s (ahandle T hs c l₁ σ₁) Q E → wpAny (model prog w) A (handleBy (.ref e) env es) Q E s₁
  | [], _, _, _, _, _, _, req => by rw [ah_nil] at req; exact req.elim
  | .mk cs nm body :: hs, [], _, h, _, _, _, _ => by cases h
  | .mk cs nm body :: hs, .ExceptHandler t nm' b p :: es, s₁, h, o, er, f, req => by
    have h0 := and_of h; have h1 := and_of h0.2; have h2 := and_of h1.2
    obtain ⟨t', rfl, ht⟩ := o1_of h0.1
    cases hm : T.mro c with
    | none => rw [ah_stuck hm] at req; exact req.elim
    | some m =>
      rw [ah_cons hm] at req
      obtain ⟨xf, ms⟩ := st.Y.ts c m hm
      refine wpAny_handleBy_cons (codeAny_handlers_test (test_sound st.Y.W st.Y.cl st.knd ht ms o er f fun s₂ o₂ er₂ f₂ => ?_)) (by intro q; cases q)
      cases hb : cs.any m.contains with
      | false =>
        rw [hb, if_neg (by decide)] at req
        exact handle_sound hchk st h2.2 o₂ er₂ f₂ req
      | true =>
        rw [hb, if_pos rfl] at req
        cases b with
        | nil => cases h1.1
        | cons b₀ bs =>
          have h3 := h2.1
          cases nm with
          | none =>
            cases nm' with
            | some _ => cases h3
            | none =>
              dsimp only at h3 req ⊢
              obtain ⟨hfl, req⟩ : T.flat c = true ∧ SReq v.names env G ρ σ s (noExc (aexecs T body l₁ σ₁)) Q E := by
                cases q : T.flat c with
                | true => rw [q] at req; exact ⟨rfl, req⟩
                | false => rw [q] at req; exact req.elim
              refine codeAny_handlers_suite (flight_same er₂ fun h₃ hk => ?_)
              have o₃ : Out G ρ₁ σ₁ s₂ ρ₁ σ₁ { s₂ with heap := h₃ } := Out.keeps (tk := s₂.toks) o₂.hr hk
              have o₄ := o₂.trans o₃.s
              obtain ⟨oe, vs, he, hc, hd, hf2, _⟩ := (er₂.keeps hk).obj
              refine hchk _ _ _ h3 G (A.mark (some (.ref e))) fr ρ₁ σ₁ { s₂ with heap := h₃ } env l₁ _ _ ⟨⟨st.Y, st.room, .inr (.inr ⟨Nat.le_refl _, e, oe, vs, _, rfl, er₂.nmu, he, hc, hd, hf2 ?_⟩), st.frm, FrOk.ex o₄.ext st.fo, o₄.hr, st.knd, f₂.ext o₃.ext, st.hdf⟩, st.hd⟩ (SReq.noExc (SReq.step o₄ req))
              rw [st.Y.fl, ← st.Y.tf]; exact hfl
          | some j =>
            cases nm' with
            | none => cases h3
            | some n =>
              dsimp only at h3 req ⊢
              have h4 := and_of h3; have h5 := and_of h4.2
              obtain ⟨v1, v2, v3⟩ := var_of st h4.1
              have hloc : env.kindOf n = some .local := by rw [st.knd]; exact eq_of_beq h5.1
              refine codeAny_handlers_suite_as (flight_same er₂ fun h₃ hk => ?_)
              have o₃ : Out G ρ₁ σ₁ s₂ ρ₁ σ₁ { s₂ with heap := h₃ } := Out.keeps (tk := s₂.toks) o₂.hr hk
              have o₄ := o₂.trans o₃.s
              have er₃ := er₂.keeps hk
              obtain ⟨oe, vs, he, hc, hd, _⟩ := er₃.obj
              have rv : VR G ρ₁ (muts ρ₁ σ₁) h₃ (.exc c) (.ref e) := .exc he (fun z => z.elim er₃.nmu fun z => by
                obtain ⟨o, y⟩ := st.hr.fbd e z
                rw [er₃.new] at y; cases y) hc ⟨vs, hd⟩
              refine store_sound (s := { s₂ with heap := h₃ }) o₃.hr (f₂.ext o₃.ext) v1 (.inl hloc) rv fun s₅ o₅ f₅ => ?_
              rw [v3] at f₅
              have o₆ := o₄.trans o₅
              refine hchk _ _ _ h5.2 G (A.mark (some (.ref e))) fr ρ₁ σ₁ s₅ env (l₁.set j (some (.exc c))) _ _ ⟨⟨st.Y, st.room, .inr (.inl (Nat.le_refl _)), st.frm, FrOk.ex o₆.ext st.fo, o₆.hr, st.knd, f₅, st.hdf⟩, st.hd⟩ ?_
              have req' := SReq.step o₆ req
              generalize aexecs T body (l₁.set j (some (.exc c))) σ₁ = r at req'
              cases r with
              | exc _ _ => exact req'.elim
              | stuck => exact req'.elim
              | ok a σ₇ =>
                obtain ⟨fl, l₇⟩ := a
                cases fl with
                | next => exact req'.elim
                | cont => exact req'.elim
                | exc _ => exact req'.elim
                | ret y =>
                  refine SReq.plain (fun _ e => by cases e) fun x ρ₇ s₇ o₇ hf f₇ => ?_
                  cases x <;> first | exact hf.elim | skip
                  refine name_goes o₇.hr f₇ v1 hloc fun s₈ o₈ f₈ => ?_
                  exact req'.1 _ ρ₇ s₈ (o₇.trans o₈) (VR.vk o₈.ext.vk hf) f₈

theorem x_try {chk : Ev → List CS → List Stmt → Bool} (hchk : ∀ v c e, chk v c e = true → XsOk prog w K P T rk v c e) {body : List CS} {b : List Stmt} {e₀ : ExceptHandler} {r : List ExceptHandler} {hs : List CH} {pos : Pos}
    (hb : XsOk prog w K P T rk v body b) (hh : chkHs K P chk v hs (e₀ :: r) = true) :
    XOk prog w K P T rk v (.try body hs) (.Try b (e₀ :: r) [] [] pos) := fun G A fr ρ σ s env l Q E st req => by
  rw [ax_try] at req
  refine wpAny_Try_except (hb _ _ _ _ _ _ _ _ _ _ st ?_)
  generalize aexecs T body l σ = rr at req
  cases rr with
  | exc _ _ => exact req.elim
  | stuck => exact req.elim
  | ok a σ₁ =>
    obtain ⟨f, l₁⟩ := a
    cases f with
    | next =>
      refine SReq.plain (fun _ e => by cases e) fun x ρ₁ s₁ o₁ hf f₁ => ?_
      cases x <;> first | exact hf.elim | skip
      exact wpAny_execs_nil (req.1 _ ρ₁ s₁ o₁ trivial f₁)
    | cont =>
      refine SReq.plain (fun _ e => by cases e) fun x ρ₁ s₁ o₁ hf f₁ => ?_
      cases x <;> first | exact hf.elim | skip
      exact req.1 _ ρ₁ s₁ o₁ trivial f₁
    | ret y =>
      refine SReq.plain (fun _ e => by cases e) fun x ρ₁ s₁ o₁ hf f₁ => ?_
      cases x <;> first | exact hf.elim | skip
      exact req.1 _ ρ₁ s₁ o₁ hf f₁
    | exc d =>
      refine ⟨fun x _ _ _ hf => by cases x <;> exact hf.elim, fun d' hd e ρ₁ s₁ o₁ er f₁ => ?_⟩
      dsimp only at hd
      cases hd
      obtain ⟨outer, hfr, hfm⟩ := st.hd
      have fo₁ := FrOk.ex o₁.ext st.fo
      rw [hfr] at fo₁
      have hfl : ∃ o, s₁.heap.get? env.locals = some o ∧ o.cls = .type "frame" := by
        obtain ⟨_, L, o, q1, _, _, q4, q5, _⟩ := fo₁ env (.head _)
        rw [hfm] at q1; cases q1
        exact ⟨o, q4, q5⟩
      refine land_lnd (h₀ := s.heap) (st.frm.trans (by rw [hfr])) fo₁ (fun a m => muts_lt o₁.hr m) o₁.hr.stays o₁.ext.dom er fun h' x xn => ?_
      have ff := fo₁.fsOk
      exact handle_sound hchk st hh (x.out ff o₁) xn (x.frm ff f₁ hfl) req

variable (P K rk) in
noncomputable def chkA1 (v : Ev) (j : Nat) (c : CE) (s : Stmt) : Bool := sAssign s fun ts e => l1 ts fun t => eName t fun x => v.var x j && ((notComp e && chkE P K rk 60 v c e) || eLC e fun elt' gens scope => chkC (chkE P K rk 60) v c elt' gens scope)
variable (P K rk) in
noncomputable def chkA3 (v : Ev) (o i c : CE) (s : Stmt) : Bool := sAssign s fun ts e => l1 ts fun t => eSubs t fun x y => chkE P K rk 60 v o x && chkE P K rk 60 v i y && chkE P K rk 60 v c e
variable (P K rk) in
noncomputable def chkX (v : Ev) (c : CE) (s : Stmt) : Bool := sExpr s fun e => notComp e && chkE P K rk 60 v c e
noncomputable def isNone (c : CE) : Bool := if c.ctorIdx = 1 then true else false
theorem isNone_of {c : CE} (h : isNone c = true) : c = .none := by
  unfold isNone at h
  by_cases q : c.ctorIdx = 1
  · exact @CE.none.elim (fun c => c = .none) c q rfl
  · rw [if_neg q] at h; cases h
variable (P K rk) in
noncomputable def chkR (v : Ev) (c : CE) (s : Stmt) : Bool := sReturn s fun o => o1 o (fun e => chkE P K rk 60 v c e) || (o.isNone && isNone c)
variable (P K) in
noncomputable def excOk (v : Ev) (x : Str) (c : Nat) : Bool := v.glob x && nsIn K mainGlobals x == some (some (.ref (P.clsOf c))) && ownExc K (P.clsOf c) valueErr "ValueError.__new__"
variable (P K) in
noncomputable def chkRs (v : Ev) (c : Nat) (s : Stmt) : Bool := sRaise s fun ex ca => ca.isNone && o1 ex fun e => eCall e fun f as ks => ks.isEmpty && eName f fun x => l1 as fun a => eConst a fun m => cStr m fun m => excOk K P v x c && PyData.strOk m && (v.qt == 0 || (v.qt == 1 && !P.flatOf c))
variable (P K rk) in
mutual
noncomputable def chkS : Nat → Ev → CS → Stmt → Bool
  | 0, _, _, _ => false
  | n + 1, v, c, e => match c with
    | .bad => true
    | .pass => sPass e true
    | .cont => sCont e true
    | .assign j c => chkA1 K P rk v j c e
    | .setitem o i c => chkA3 K P rk v o i c e
    | .expr c => chkX K P rk v c e
    | .ite c t d => sIf e fun x b o => chkE P K rk 60 v c x && chkSs n v t b && chkSs n v d o
    | .for j it body => sFor e fun t iter b o => (v.qt == 0 && o.isEmpty) && eName t fun x => v.var x j && notSet iter && chkE P K rk 60 v it iter && chkSs n v body b
    | .while c body => sWhile e fun x b o => o.isEmpty && chkE P K rk 60 v c x && chkSs n v body b
    | .ret c => chkR K P rk v c e
    | .raise c => chkRs K P v c e
    | .try body hs => sTry e fun b es o f => o.isEmpty && f.isEmpty && chkSs n v body b && (!es.isEmpty && chkHs K P (chkSs n) v hs es)
    | _ => false
noncomputable def chkSs : Nat → Ev → List CS → List Stmt → Bool
  | 0, _, _, _ => false
  | n + 1, v, cs, es => match cs with
    | [] => es.isEmpty
    | c :: cs => (match es with
      | e :: es => chkS n v c e && chkSs n v cs es
      | [] => false)
end

theorem x_assign_comp {j : Nat} {c : CE} {n : Nat} {x : Str} {elt' : Expr} {gens : List Comprehension} {scope : Scope} {px pe pos : Pos} (hv : v.var x j = true) (h : chkC (chkE P K rk n) v c elt' gens scope = true) : XOk prog w K P T rk v (.assign j c) (.Assign [.Name x px] (.ListComp elt' gens scope pe) pos) := by
  intro G A fr ρ σ s env l Q E st req
  have hs : swapsWith (.ListComp elt' gens scope pe) (some (.Name x px)) pos.line env = pure (env.blockKind == .function && env.kindOf x == some .local && px.line == pe.line && !(scope.names.any fun (n, k) => n == x && (k == .local || k == .cell))) := rfl
  generalize (env.blockKind == .function && env.kindOf x == some .local && px.line == pe.line && !(scope.names.any fun (n, k) => n == x && (k == .local || k == .cell))) = b at hs
  cases b with
  | true => exact x_assign_used hv h st hs req
  | false =>
    rw [ax_assign] at req
    obtain ⟨v1, v2, v3⟩ := var_of st hv
    refine wpAny_Assign_Name (c_sound (chk_sound n) h _ _ _ _ _ _ _ _ _ _ st.toSt (SReq.bind st.f req fun a σ₁ y ρ₁ s₁ o₁ rv req₁ => ?_)) hs
    refine store_sound o₁.hr (st.out o₁).f v1 v2 rv fun s₂ o₂ f₂ => ?_
    rw [v3] at f₂
    exact req₁.1 _ ρ₁ s₂ o₂ trivial f₂

mutual
theorem chkS_sound : ∀ (n : Nat) (v : Ev) (c : CS) (e : Stmt), chkS K P rk n v c e = true → XOk prog w K P T rk v c e
  | 0, _, _, _, h => Bool.noConfusion h
  | n + 1, v, c, e, h => by
    cases c with
    | bad =>
      exact x_bad
    | pass =>
      exact sPass_el (XOk prog w K P T rk v _) h fun p _ => x_pass
    | cont =>
      exact sCont_el (XOk prog w K P T rk v _) h fun p _ => x_cont
    | assign j c =>
      exact sAssign_el (XOk prog w K P T rk v _) h fun ts e p h => l1_el (fun ts => XOk prog w K P T rk v _ (.Assign ts e p)) h fun t h => eName_el (fun t => XOk prog w K P T rk v _ (.Assign [t] e p)) h fun x q h =>
        (Bool.or_eq_true_iff.mp (and_of h).2).elim (fun z => x_assign (and_of h).1 (fun env _ => swaps_no (and_of z).1) (chk_sound 60 _ _ _ (and_of z).2).1)
          fun z => eLC_el (fun e => XOk prog w K P T rk v _ (.Assign [.Name x q] e p)) z fun elt' gens scope pe z => x_assign_comp (and_of h).1 z
    | setitem o i c =>
      exact sAssign_el (XOk prog w K P T rk v _) h fun ts e p h => l1_el (fun ts => XOk prog w K P T rk v _ (.Assign ts e p)) h fun t h => eSubs_el (fun t => XOk prog w K P T rk v _ (.Assign [t] e p)) h fun x y q h =>
        have h0 := and_of h; have h1 := and_of h0.1
        x_setitem (chk_sound _ _ _ _ h1.1).1 (chk_sound _ _ _ _ h1.2).1 (chk_sound _ _ _ _ h0.2).1
    | expr c =>
      exact sExpr_el (XOk prog w K P T rk v _) h fun e p h => x_expr (and_of h).1 (chk_sound _ _ _ _ (and_of h).2).1
    | ite c t d =>
      exact sIf_el (XOk prog w K P T rk v _) h fun x b o p h => have h0 := and_of h; have h1 := and_of h0.1
        x_ite (chk_sound _ _ _ _ h1.1).2 (chkSs_sound n _ _ _ h1.2) (chkSs_sound n _ _ _ h0.2)
    | «for» j it body =>
      exact sFor_el (XOk prog w K P T rk v _) h fun t iter b o p h => have hq := eq_of_beq (and_of (and_of h).1).1; nil_el (fun o => XOk prog w K P T rk v _ (.For t iter b o p)) (and_of (and_of h).1).2 (eName_el (fun t => XOk prog w K P T rk v _ (.For t iter b [] p)) (and_of h).2 fun x q h =>
        have h0 := and_of h; have h1 := and_of h0.1; have h2 := and_of h1.1
        x_for hq h2.1 h2.2 (chk_sound _ _ _ _ h1.2).1 (chkSs_sound n _ _ _ h0.2))
    | «while» c body =>
      exact sWhile_el (XOk prog w K P T rk v _) h fun x b o p h => have h0 := and_of h; have h1 := and_of h0.1
        nil_el (fun o => XOk prog w K P T rk v _ (.While x b o p)) h1.1 (x_while (chk_sound _ _ _ _ h1.2).2 (chkSs_sound n _ _ _ h0.2))
    | ret c =>
      exact sReturn_el (XOk prog w K P T rk v _) h fun o p h => (Bool.or_eq_true_iff.mp h).elim (fun h => o1_el (fun o => XOk prog w K P T rk v _ (.Return o p)) h fun e h => x_ret (chk_sound _ _ _ _ h).1)
        fun h => no_el (fun o => XOk prog w K P T rk v _ (.Return o p)) (and_of h).1 (by rw [isNone_of (and_of h).2]; exact x_retNone)
    | raise c =>
      exact sRaise_el (XOk prog w K P T rk v _) h fun ex ca p h => no_el (fun ca => XOk prog w K P T rk v _ (.Raise ex ca p)) (and_of h).1 (o1_el (fun ex => XOk prog w K P T rk v _ (.Raise ex none p)) (and_of h).2 fun e h =>
        eCall_el (fun e => XOk prog w K P T rk v _ (.Raise (some e) none p)) h fun f as ks p1 h => nil_el (fun ks => XOk prog w K P T rk v _ (.Raise (some (.Call f as ks p1)) none p)) (and_of h).1 (eName_el (fun f => XOk prog w K P T rk v _ (.Raise (some (.Call f as [] p1)) none p)) (and_of h).2 fun x p2 h =>
          l1_el (fun as => XOk prog w K P T rk v _ (.Raise (some (.Call (.Name x p2) as [] p1)) none p)) h fun a h => eConst_el (fun a => XOk prog w K P T rk v _ (.Raise (some (.Call (.Name x p2) [a] [] p1)) none p)) h fun m q p3 h => cStr_el (fun m => XOk prog w K P T rk v _ (.Raise (some (.Call (.Name x p2) [.Constant m q p3] [] p1)) none p)) h fun m h =>
            have h9 := and_of h; have h0 := and_of h9.1; have h1 := and_of h0.1; have h2 := and_of h1.1
            x_raise h2.1 (eq_of_beq h2.2) h1.2 h0.2 ((Bool.or_eq_true_iff.mp h9.2).imp eq_of_beq fun z => ⟨eq_of_beq (and_of z).1, (Bool.not_eq_true' _).mp (and_of z).2⟩)))
    | «try» body hs =>
      refine sTry_el (XOk prog w K P T rk v _) h fun b es o f p h => ?_
      have h0 := and_of h; have h1 := and_of h0.1; have h2 := and_of h1.1
      have h5 := h0.2
      refine nil_el (fun o => XOk prog w K P T rk v _ (.Try b es o f p)) h2.1 (nil_el (fun f => XOk prog w K P T rk v _ (.Try b es [] f p)) h2.2 ?_)
      cases es with
      | nil => cases (and_of h5).1
      | cons e₀ r => exact x_try (fun v c e h => chkSs_sound n v c e h) (chkSs_sound n _ _ _ h1.2) (and_of h5).2
    | _ => cases h
theorem chkSs_sound : ∀ (n : Nat) (v : Ev) (c : List CS) (e : List Stmt), chkSs K P rk n v c e = true → XsOk prog w K P T rk v c e
  | 0, _, _, _, h => by unfold chkSs at h; cases h
  | n + 1, v, cs, es, h => by
    unfold chkSs at h
    cases cs with
    | nil =>
      cases es with
      | nil => exact xs_nil
      | cons => cases h
    | cons c cs =>
      cases es with
      | nil => cases h
      | cons e es =>
        dsimp only at h
        simp only [Bool.and_eq_true] at h
        exact xs_cons (chkS_sound n _ _ _ h.1) (chkSs_sound n _ _ _ h.2)
end
end
end Mine.Internal
namespace Mine.Internal
open PySem PyProof.Rows PySem.W

noncomputable def CellAt (h : Heap) (c : Addr) : Prop := h.get? c = some { cls := .type "cell", data := .cell none }
theorem cells_ok : ∀ (names : List (Str × NameKind)) (h : Heap) (lo : Nat) (acc : List (Str × Addr)), (∀ n c, (n, c) ∈ acc → CellAt h c ∧ lo ≤ c) → (acc.Pairwise fun x y => x.2 ≠ y.2) → lo ≤ h.objs.size →
    (∀ n c, (n, c) ∈ cellsFrom h.objs.size names acc → CellAt (pushCells h names) c ∧ lo ≤ c) ∧ (cellsFrom h.objs.size names acc).Pairwise fun x y => x.2 ≠ y.2
  | [], _, _, _, x, y, _ => ⟨x, y⟩
  | (name, kind) :: r, h, lo, acc, x, y, hlo => by
    unfold pushCells cellsFrom
    split
    · have := cells_ok r (h.push { cls := .type "cell", data := .cell none }) lo ((name, h.objs.size) :: acc)
        (fun n c hm => by
          rcases List.mem_cons.mp hm with e | hm
          · cases e; exact ⟨Heap.get?_push_size _ rfl, hlo⟩
          · exact ⟨Heap.get?_push_of_some _ (x n c hm).1, (x n c hm).2⟩)
        (List.pairwise_cons.mpr ⟨fun z hz e => by
          have hlt := Heap.lt_size (x z.1 z.2 hz).1
          have e' : h.objs.size = z.2 := e
          exact Nat.lt_irrefl _ (e' ▸ hlt), y⟩) (by rw [Heap.size_push]; lia)
      rwa [Heap.size_push] at this
    · exact cells_ok r h lo acc x y hlo
theorem cells_acc : ∀ (names : List (Str × NameKind)) (n : Nat) (acc : List (Str × Addr)) (y : Str), (acc.lookup y).isSome = true → ((cellsFrom n names acc).lookup y).isSome = true
  | [], _, _, _, h => h
  | (m, k) :: r, n, acc, y, h => by
    unfold cellsFrom
    split
    · refine cells_acc r _ _ y ?_
      rw [List.lookup_cons]
      cases y == m with
      | true => rfl
      | false => exact h
    · exact cells_acc r _ acc y h
theorem cells_mem : ∀ (names : List (Str × NameKind)) (n : Nat) (acc : List (Str × Addr)) (y : Str), (y, NameKind.cell) ∈ names → ∃ c, (cellsFrom n names acc).lookup y = some c
  | (m, k) :: r, n, acc, y, h => by
    unfold cellsFrom
    rcases List.mem_cons.mp h with e | h
    · cases e
      rw [if_pos (by rfl)]
      exact Option.isSome_iff_exists.mp (cells_acc r _ _ _ (by rw [List.lookup_cons]; simp))
    · split
      · exact cells_mem r _ _ y h
      · exact cells_mem r _ _ y h

section
variable {prog : Program} {w : World} {K : Frag} {P : PI} {T : Tab} {rk : Nat} {G : Cfg} {A : Around} {fr : List Env} {ρ ρ' : Pl} {σ σ' : H} {s s' : Shared} {env : Env} {l l' : L} {E : Value → Shared → Prop} {names : List Str}

theorem idxOf_at {a b : List Str} {x : Str} (h : (a ++ x :: b).Nodup) : (a ++ x :: b).idxOf x = a.length := by
  induction a with
  | nil => simp
  | cons y r ih =>
    rw [List.cons_append] at h ⊢
    obtain ⟨h1, h2⟩ := List.nodup_cons.mp h
    rw [List.idxOf_cons]
    have : (y == x) = false := beq_eq_false_iff_ne.mpr fun e => h1 (by rw [e]; simp)
    rw [this]
    simp [ih h2]

theorem bind_loop {M : Model} (f : Str × Value → PUnit → Sem (ForInStep PUnit)) (hf : ∀ n v u, f (n, v) u = (do storeName env n v; pure (.yield ⟨⟩))) :
    ∀ (ns dn rest : List Str) (xs : List Value) (vs done : List V) (s : Shared) (Q : PUnit → Shared → Prop), names = dn ++ ns ++ rest → names.Nodup → dn.length = done.length → ns.length = xs.length → (∀ x ∈ ns, env.kindOf x = some .local ∨ env.kindOf x = some .cell) →
      HR G ρ σ s.heap → VRs G ρ (muts ρ σ) s.heap vs xs → FR G names env (done.map some ++ List.replicate (names.length - done.length) none) ρ (muts ρ σ) s.heap →
      (∀ s', OutS (own env) G ρ σ s ρ σ s' → FR G names env ((done ++ vs).map some ++ List.replicate (names.length - (done ++ vs).length) none) ρ (muts ρ σ) s'.heap → Q ⟨⟩ s') → wpAny M A (forIn (ns.zip xs) ⟨⟩ f) Q E s
  | [], dn, rest, xs, vs, done, s, Q, hn, hnd, hd, hl, hk, hr, rv, fr, h => by
    cases xs with
    | cons => simp at hl
    | nil =>
      cases rv
      rw [List.zip_nil_left, List.forIn_nil]
      exact wpAny_pure (h s (OutS.refl hr) (by simpa using fr))
  | x :: ns, dn, rest, xs, vs, done, s, Q, hn, hnd, hd, hl, hk, hr, rv, fr, h => by
    cases xs with
    | nil => simp at hl
    | cons y ys =>
      cases rv with | @cons a as _ _ ra ras =>
      rw [List.zip_cons_cons, List.forIn_cons, hf]
      have hx : x ∈ names := by rw [hn]; simp
      refine wpAny_bind (wpAny_bind (store_sound hr fr hx (hk x (.head _)) ra fun s₁ o₁ f₁ => wpAny_pure ?_))
      have hi : names.idxOf x = done.length := by
        rw [← hd, hn, List.append_assoc, List.cons_append]
        exact idxOf_at (by rw [hn, List.append_assoc, List.cons_append] at hnd; exact hnd)
      have hlt : done.length < names.length := by rw [hn]; simp; lia
      have e1 : (done.map some ++ List.replicate (names.length - done.length) none).set (names.idxOf x) (some a) = (done ++ [a]).map some ++ List.replicate (names.length - (done ++ [a]).length) none := by
        rw [hi, List.set_append_right _ _ (by simp)]
        have : names.length - done.length = (names.length - (done ++ [a]).length) + 1 := by simp; lia
        rw [this, List.replicate_succ]
        simp
      rw [e1] at f₁
      refine bind_loop f hf ns (dn ++ [x]) rest ys as (done ++ [a]) s₁ Q (by rw [hn]; simp) hnd (by simp [hd]) (by simpa using hl) (fun z hz => hk z (.tail _ hz)) o₁.hr (ras.vk o₁.ext.vk) f₁ fun s₂ o₂ f₂ => ?_
      exact h s₂ (o₁.trans o₂) (by simpa using f₂)

theorem enter_sound {scope : Scope} {globals builtins : Addr} {qual : Str} {func : Option Addr} {code : Value} {ns : List Str} {xs : List Value} {vs : List V} {Q : Env → Shared → Prop} {rest : List Str} {M : Model}
    (hk : scope.kind = .function) (hg : globals = mainGlobals) (hb : builtins = builtinsNs) (hn : names = ns ++ rest) (hnd : names.Nodup) (hl : ns.length = xs.length) (hkd : ∀ x ∈ ns, scope.names.lookup x = some .local ∨ scope.names.lookup x = some .cell)
    (hr : HR G ρ σ s.heap) (rv : VRs G ρ (muts ρ σ) s.heap vs xs)
    (h : ∀ env s', env.scope = scope → env.frame = some env.locals → s.heap.get? env.locals = none → (∀ a, own env a → s.heap.get? a = none) → OutS (fun a => s.heap.get? a = none) G ρ σ s ρ σ s' →
      FR G names env (vs.map some ++ List.replicate (names.length - vs.length) none) ρ (muts ρ σ) s'.heap → (∃ o, s'.heap.get? env.locals = some o ∧ o.cls = .type "frame" ∧ ∀ vs, o.data ≠ .fields vs) → Q env s') :
    wpAny M A (newFunctionEnv scope globals [] (ns.zip xs) qual func code none builtins) Q E s := by
  simp only [newFunctionEnv, Option.isSome_none, Bool.false_eq_true, if_false]
  refine wpAny_bind (wpAny_alloc ?_)
  refine wpAny_bind (wpAny_layCells _ (fun name kind cells => by cases kind == NameKind.cell <;> simp) _ _ _ _ ?_)
  rw [show ({ s with heap := s.heap.push { cls := .type "frame", data := .dict #[] } } : Shared).heap.objs.size = s.heap.objs.size + 1 from Heap.size_push ..]
  have ck := cells_ok scope.names (s.heap.push { cls := .type "frame", data := .dict #[] }) (s.heap.objs.size + 1) [] (fun _ _ h => nomatch h) .nil (by rw [Heap.size_push]; exact Nat.le_refl _)
  rw [Heap.size_push] at ck
  obtain ⟨ck, apart⟩ := ck
  have hL : s.heap.get? s.heap.objs.size = none := size_none _
  have hLo : (s.heap.push { cls := .type "frame", data := .dict #[] }).get? s.heap.objs.size = some { cls := .type "frame", data := .dict #[] } := Heap.get?_push_size _ rfl
  have hcl : ∀ n c, (cellsFrom (s.heap.objs.size + 1) scope.names []).lookup n = some c → CellAt (pushCells (s.heap.push { cls := .type "frame", data := .dict #[] }) scope.names) c ∧ s.heap.objs.size + 1 ≤ c := fun n c e => ck n c (mem_of_lookup e)
  have k₂ : ∀ b o, s.heap.get? b = some o → (pushCells (s.heap.push { cls := .type "frame", data := .dict #[] }) scope.names).get? b = some o := fun b o e => pushCells_keeps _ _ b o (Heap.get?_push_of_some _ e)
  have hfr : ∀ c : Addr, s.heap.objs.size ≤ c → s.heap.get? c = none := fun c hc => by
    cases e : s.heap.get? c with
    | none => rfl
    | some o => exact absurd (Heap.lt_size e) (Nat.not_lt.mpr hc)
  have hr₂ : HR G ρ σ (pushCells (s.heap.push { cls := .type "frame", data := .dict #[] }) scope.names) := hr.keeps k₂
  have rv₂ := rv.ext (Ext.of_keeps (ρ := ρ) (mu := muts ρ σ) k₂)
  have out₂ : OutS (fun a => s.heap.get? a = none) G ρ σ s ρ σ { s with heap := pushCells (s.heap.push { cls := .type "frame", data := .dict #[] }) scope.names } := (Out.keeps (tk := s.toks) hr k₂).s
  have hns : (pushCells (s.heap.push { cls := .type "frame", data := .dict #[] }) scope.names).Ns s.heap.objs.size fun _ => none := (Heap.Ns.new s.heap (.type "frame")).keeps (pushCells_keeps _ _)
  generalize henv : ({ scope := scope, locals := s.heap.objs.size, globals := globals, cells := cellsFrom (s.heap.objs.size + 1) scope.names [], qual := qual, func := func, code := code, frame := some s.heap.objs.size, builtins := builtins } : Env) = env
  have e1 : env.scope = scope := by rw [← henv]
  have e2 : env.locals = s.heap.objs.size := by rw [← henv]
  have e3 : env.cells = cellsFrom (s.heap.objs.size + 1) scope.names [] := by rw [← henv]
  have e4 : env.frame = some env.locals := by rw [← henv]
  have ownF : ∀ a, own env a → s.heap.get? a = none := fun a ha => by
    rcases ha with q | ⟨x, q⟩
    · rw [q, e2]; exact hL
    · rw [e3] at q; exact hfr a (Nat.le_of_succ_le (hcl x a q).2)
  have fr₂ : FR G names env (([] : List V).map some ++ List.replicate (names.length - ([] : List V).length) none) ρ (muts ρ σ) (pushCells (s.heap.push { cls := .type "frame", data := .dict #[] }) scope.names) := by
    refine ⟨by rw [e1]; exact hk, by rw [← henv]; exact hg, by rw [← henv]; exact hb, by simp, ⟨_, by rw [e2]; exact hns, fun y a _ q => ?_⟩, not_muts hr (ownF _ (.inl rfl)), not_base hr (ownF _ (.inl rfl)), fun y c e => ?_, fun y q => ?_, fun y y' c e e' => ?_⟩
    · exfalso
      simp only [List.map_nil, List.nil_append, List.getElem?_replicate] at q
      split at q <;> cases q
    · have e' := e
      rw [e3] at e'
      refine ⟨not_muts hr (ownF _ (.inr ⟨y, e⟩)), fun q => ?_, not_base hr (ownF _ (.inr ⟨y, e⟩)), none, _, (hcl y c e').1, rfl, rfl, fun a _ q => ?_⟩
      · have := (hcl y c e').2
        rw [q, e2] at this
        exact Nat.lt_irrefl _ this
      · exfalso
        simp only [List.map_nil, List.nil_append, List.getElem?_replicate] at q
        split at q <;> cases q
    · rw [e3]
      refine cells_mem _ _ _ _ (lookup_mem ?_)
      unfold Env.kindOf at q; rw [e1] at q; exact q
    · rw [e3] at e e'
      exact name_of_addr apart (mem_of_lookup e) (mem_of_lookup e')
  refine wpAny_bind (bind_loop (G := G) (ρ := ρ) (σ := σ) (names := names) (env := env) _ (fun _ _ _ => by rw [← henv]) ns [] rest xs vs [] _ _ (by simpa using hn) hnd rfl hl (fun x hx => by unfold Env.kindOf; rw [e1]; exact hkd x hx) hr₂ rv₂ fr₂ fun s₃ o₃ f₃ => wpAny_pure ?_)
  have o₃' : OutS (fun a => s.heap.get? a = none) G ρ σ s ρ σ s₃ := out₂.trans (o₃.mono ownF)
  refine h env s₃ e1 e4 (ownF _ (.inl rfl)) ownF o₃' (by simpa using f₃) ?_
  obtain ⟨_, o', q1, q2, q3⟩ := o₃.ext.frm env.locals _ (not_muts hr (ownF _ (.inl rfl))) (by rw [e2]; exact pushCells_keeps _ _ _ _ hLo) rfl (fun vs q => by cases q)
  exact ⟨o', q1, q2, q3⟩

section
theorem VR.under {mu : Addr → Prop} {h : Heap} {v : V} {y : Value} (r : VR G ρ mu h v y) : v.under ρ.length = true :=
  @VR.rec G ρ mu h (fun v _ _ => v.under ρ.length = true) (fun vs _ _ => unders ρ.length vs = true) rfl (fun _ => rfl) (fun _ _ => rfl) (fun _ _ _ => rfl) (fun _ _ _ _ _ _ ih => by unfold V.under; exact ih) (fun _ _ _ _ _ _ ih => by unfold V.under; exact ih) (fun _ _ _ => rfl)
    (fun e => by unfold V.under; exact decide_eq_true (List.getElem?_eq_some_iff.mp e).1) (fun _ _ _ _ => rfl) rfl (fun _ _ a b => by unfold Mine.Internal.unders; rw [a, b]; rfl) v y r
theorem VRs.unders {mu : Addr → Prop} {h : Heap} : ∀ {vs : List V} {ys : List Value}, VRs G ρ mu h vs ys → unders ρ.length vs = true
  | [], _, _ => rfl
  | _ :: _, _, r => by cases r with | cons a b => unfold Mine.Internal.unders; rw [VR.under a, VRs.unders b]; rfl
theorem VR.cut {mu mu' : Addr → Prop} {h : Heap} (hm : ∀ a, mu a → mu' a) (hp : ∀ (i : Nat) p, i < ρ.length → ρ'[i]? = some p → ρ[i]? = some p) {v : V} {y : Value} (r : VR G ρ' mu' h v y) (u : v.under ρ.length = true) : VR G ρ mu h v y :=
  r.gen (G' := G) (q := True) (n := ρ.length) rfl (fun a o n e _ => ⟨fun q => n (q.imp (hm a) id), o, e, .inl rfl⟩) (fun i p u e => hp i p (by have := u trivial; unfold V.under at this; exact of_decide_eq_true this) e) fun _ => u
theorem VRs.cut {mu mu' : Addr → Prop} {h : Heap} (hm : ∀ a, mu a → mu' a) (hp : ∀ (i : Nat) p, i < ρ.length → ρ'[i]? = some p → ρ[i]? = some p) {vs : List V} {ys : List Value} (r : VRs G ρ' mu' h vs ys) (u : Mine.Internal.unders ρ.length vs = true) : VRs G ρ mu h vs ys :=
  r.gen (q := True) (n := ρ.length) (fun r u => r.cut hm hp (u trivial)) fun _ => u
end

theorem freeze_sound {v : V} {x : Value} {b : Bool} {n : Nat} (o : Out G ρ σ s ρ' σ' s') (rv : VR G ρ' (muts ρ' σ') s'.heap v x) :
    Out G ρ σ s ρ' (freeze b n v σ').2 s' ∧ VR G ρ' (muts ρ' (freeze b n v σ').2) s'.heap (freeze b n v σ').1 x := by
  unfold freeze
  split
  · split
    · split
      · rename_i i _ _ vs hi
        cases rv with | @ref _ p hp =>
        obtain ⟨X1, X2⟩ := HR.upd (o' := .dead) o.hr hi hp (fun e => by cases e) (fun b ob _ _ e => e) (fun b ob e => ⟨ob, e⟩) fun mu _ => trivial
        refine ⟨⟨X1, o.ext.trans X2, o.gens, o.os⟩, ?_⟩
        obtain ⟨ep, ob, xs, k, hob, hc, hd, hv, hz, _⟩ := o.hr.objs _ _ _ hi hp
        have live : muts ρ' σ' p.1 := ⟨_, _, _, hi, (fun e => by cases e), hp, .inl rfl⟩
        refine .lst hob (fun q => ?_) hc hd (hv.ext X2) hz
        rcases q with ⟨j, oj, q, h1, h2, h3, h4⟩ | q
        · rw [List.getElem?_set] at h1
          split at h1
          · first | (cases h1; exact h2 rfl) | (split at h1 <;> cases h1; exact h2 rfl)
          · rename_i hne
            obtain ⟨a1, a2, _⟩ := o.hr.apart _ j _ oj p q hi h1 (fun e => by cases e) h2 hp h3 hne
            exact h4.elim a1 a2
        · exact o.hr.fbn _ q live
      · exact ⟨o, rv⟩
    · exact ⟨o, rv⟩
  · exact ⟨o, rv⟩

theorem tidy_cut (hr : HR G ρ σ s.heap) (o : Out G ρ σ s ρ' σ' s') (h1 : σ'.take σ.length = σ) :
    Out G ρ σ s ρ σ s' ∧ (∀ a, muts ρ σ a → muts ρ' σ' a) ∧ ∀ (i : Nat) p, i < ρ.length → ρ'[i]? = some p → ρ[i]? = some p := by
  have hget : ∀ (i : Nat) (q : O), σ[i]? = some q → σ'[i]? = some q := fun i q e => by
    rw [← h1, List.getElem?_take] at e
    split at e
    · exact e
    · cases e
  have hpl : ∀ (i : Nat) p, i < ρ.length → ρ'[i]? = some p → ρ[i]? = some p := fun i p hi e => by
    have e1 := List.getElem?_eq_getElem hi
    have e2 := o.ext.pl i _ e1
    rw [e] at e2; rw [e1, e2]
  have hm : ∀ a, muts ρ σ a → muts ρ' σ' a := fun a ⟨i, oi, p, q1, q2, q3, q4⟩ => ⟨i, oi, p, hget i oi q1, q2, o.ext.pl i p q3, q4⟩
  refine ⟨⟨⟨o.hr.stays, o.hr.fbd, hr.len, fun i oi p q1 q3 => ?_, hr.new, hr.apart, hr.fbn⟩, ⟨fun _ _ e => e, o.ext.dom, fun a oa na ea => ⟨na, (o.ext.keep a oa na ea).2⟩⟩, o.gens, o.os⟩, hm, hpl⟩
  have new := o.hr.objs i oi p (hget i oi q1) (o.ext.pl i p q3)
  have old := hr.objs i oi p q1 q3
  cases oi with
  | list vs =>
    obtain ⟨e, ob, xs, n, ho, hc, hd, hv, hz, hdn⟩ := new
    obtain ⟨_, _, _, _, _, _, _, hv', _⟩ := old
    exact ⟨e, ob, xs, n, ho, hc, hd, hv.cut hm hpl hv'.unders, hz, hdn⟩
  | inst c fs =>
    obtain ⟨hne, ho, m, hn, hf⟩ := new
    obtain ⟨_, _, _, _, hf'⟩ := old
    refine ⟨hne, ho, m, hn, fun n => ?_⟩
    rcases hf n with q | ⟨v, y, q1, q2, q3⟩
    · exact .inl q
    · rcases hf' n with ⟨z, _⟩ | ⟨v', y', z1, z2, z3⟩
      · rw [z] at q1; cases q1
      · rw [q1] at z1; cases z1
        exact .inr ⟨v, y, q1, q2, q3.cut hm hpl z3.under⟩
  | dict es => exact new
  | dead => trivial

theorem tidy_sound {v : V} {x : Value} {b : Bool} {Q : Value → Shared → Prop} (hr : HR G ρ σ s.heap) (o : Out G ρ σ s ρ' σ' s') (rv : VR G ρ' (muts ρ' σ') s'.heap v x) (req : Req G ρ σ s (tidy b σ v σ') (VR G) Q E) : Q x s' := by
  unfold tidy at req
  split at req
  · split at req
    · rename_i hh
      obtain ⟨q1, q2, q3⟩ := tidy_cut hr o hh.1
      exact req x ρ s' q1 (rv.cut q2 q3 (by rw [hr.len]; exact hh.2))
    · exact req.elim
  · exact req x ρ' s' o rv
theorem tidyE_sound {c : Nat} {e : Addr} {b : Bool} {Q : Value → Shared → Prop} (hr : HR G ρ σ s.heap) (o : Out G ρ σ s ρ' σ' s') (er : ER G s.heap (muts ρ' σ') s'.heap c e) (req : Req G ρ σ s (tidyE b σ c σ') (VR G) Q E) : E (.ref e) s' := by
  unfold tidyE at req
  split at req
  · split at req
    · rename_i hh
      obtain ⟨q1, q2, q3⟩ := tidy_cut hr o hh
      obtain ⟨oe, vs, a, b, d, fl, r⟩ := er.obj
      exact req e ρ s' q1 ⟨er.new, fun m => er.nmu (q2 _ m), er.nb, oe, vs, a, b, d, fl, r.imp id fun ⟨T, oT, ts, w1, w2, w3, w4, w5⟩ => ⟨T, oT, ts, w1, w2, w3, fun m => w4 (q2 _ m), w5⟩⟩
    · exact req.elim
  · exact req e ρ' s' o er

noncomputable def parOk (p : Arguments) : Bool := p.posonlyargs.isEmpty && (p.vararg.isNone && (p.kwonlyargs.isEmpty && (p.kw_defaults.isEmpty && (p.kwarg.isNone && p.defaults.isEmpty))))
theorem parOk_of {p : Arguments} (h : parOk p = true) : p = ⟨[], p.args, none, [], [], none, []⟩ := by
  obtain ⟨a, as, b, c, d, e, f⟩ := p
  have h0 := and_of h; have h1 := and_of h0.2; have h2 := and_of h1.2; have h3 := and_of h2.2; have h4 := and_of h3.2
  cases List.isEmpty_iff.mp h0.1; cases Option.isNone_iff_eq_none.mp h1.1; cases List.isEmpty_iff.mp h2.1; cases List.isEmpty_iff.mp h3.1; cases Option.isNone_iff_eq_none.mp h4.1; cases List.isEmpty_iff.mp h4.2
  rfl
noncomputable def fnOk (K : Frag) (P : PI) (fi : FnI) : Bool :=
  o1 (K.lookup fi.addr) fun o => dFunc o.data fun fd => bStmts fd.body fun body => parOk fd.params && (
      fd.defaults == .none && (fd.closure.isEmpty && (fd.globals == mainGlobals && (fd.builtins == builtinsNs && (fd.scope.kind == .function && (!fd.scope.isCoroutine && (!fd.scope.isGenerator && (codeIn K fd.code fd.qualname &&
      (fd.params.args.length == fi.fn.params && ((fd.params.args.map (·.arg)) == fi.names.take fi.fn.params && (fi.fn.slots == fi.names.length && (decide fi.names.Nodup &&
      ((fd.params.args.map (·.arg)).all (fun x => fd.scope.names.lookup x == some .local || fd.scope.names.lookup x == some .cell) && chkSs K P fi.rk 60 ⟨fi.names, fun x => fd.scope.names.lookup x, fi.qt⟩ fi.fn.body body)))))))))))))

theorem endFn_plain {fn : Fn} {h h' : H} {f : Fl} {l : L} (hne : ∀ c, f ≠ .exc c) : endFn fn h (.ok (f, l) h') = tidy fn.pure h (freeze fn.frz h.length (flV f) h').1 (freeze fn.frz h.length (flV f) h').2 := by
  cases f <;> first | rfl | exact absurd rfl (hne _)
theorem fn_sound {f : Nat} {fi : FnI} {T' : Tab} (ok : fnOk K P fi = true) (Y : Hyp prog w G K P T fi.rk) (hT : ∀ vs h, T'.F f vs h = runFn T fi.fn vs h) : SFn prog w G T' f fi := by
  intro A fr ρ σ s vs xs R room hok frm fo hr rv req
  rw [ReqR, hT] at req
  obtain ⟨⟨c0, d0, da, sl0⟩, hK, ok⟩ := o1_of ok
  obtain ⟨fd, rfl, ok⟩ := dFunc_of ok
  obtain ⟨body, hbody, ok⟩ := bStmts_of ok
  have k0 := and_of ok; have k1 := and_of k0.2; have k2 := and_of k1.2; have k3 := and_of k2.2; have k4 := and_of k3.2; have k5 := and_of k4.2; have k6 := and_of k5.2; have k7 := and_of k6.2; have k8 := and_of k7.2; have k9 := and_of k8.2; have k10 := and_of k9.2; have k11 := and_of k10.2; have k12 := and_of k11.2; have k13 := and_of k12.2
  have hparams := parOk_of k0.1
  have h1 := eq_of_beq k1.1; have h2 := List.isEmpty_iff.mp k2.1; have h3 := eq_of_beq k3.1; have h4 := eq_of_beq k4.1; have h5 := eq_of_beq k5.1
  have h6 := (Bool.not_eq_true' _).mp k6.1; have h7 := (Bool.not_eq_true' _).mp k7.1; have h8 := k8.1; have h9 := eq_of_beq k9.1; have h10 := eq_of_beq k10.1; have h11 := eq_of_beq k11.1; have h12 := of_decide_eq_true k12.1
  have h13 := fun x hx => (Bool.or_eq_true_iff.mp (List.all_eq_true.mp k13.1 x hx)).imp eq_of_beq eq_of_beq
  have h14 := k13.2
  clear ok k0 k1 k2 k3 k4 k5 k6 k7 k8 k9 k10 k11 k12 k13
  generalize fd.params.args = as at hparams h9 h10 h13
  unfold runFn at req
  split at req
  case isFalse => exact req.elim
  rename_i hlen
  have X := Y.W.here hr
  have hxl : xs.length = as.length := by rw [← rv.length, hlen, h9]
  refine codeAny_call_function (by have := room.1; show A.depth < 1000; lia) (X _ _ hK) rfl h6 h7 hbody (codeRec_of X h8) ?_
  rw [bind_plain hparams h1 (by rw [h10]; exact h12.sublist (List.take_sublist _ _)) hxl, h2]
  refine wpAny_pure (enter_sound (G := G) (names := fi.names) (rest := fi.names.drop fi.fn.params) h5 h3 h4 (by rw [h10, List.take_append_drop]) h12 (by simp [hxl]) (fun x hx => h13 x hx) hr rv fun env s₁ e1 e2 e3 e4 o₁ f₁ hfo => ?_)
  refine ⟨Y.W.nl.keeps o₁.hr.stays, codeAny_func ?_⟩
  have e5 : fi.fn.slots - fi.fn.params = fi.names.length - vs.length := by rw [h11, hlen]
  rw [e5] at req
  have ext₁ : Ext ρ (muts ρ σ) s.heap ρ (muts ρ σ) s₁.heap := o₁.ext.toExt fun a e => e
  have st : StS prog w K P T fi.rk ⟨fi.names, fun x => fd.scope.names.lookup x, fi.qt⟩ G (A.deeper env) (env :: fr) ρ σ s₁ env (vs.map some ++ List.replicate (fi.names.length - vs.length) none) := by
    refine ⟨⟨Y, ⟨?_, ?_⟩, hok.ext ext₁, ?_, fun e he => ?_, o₁.hr, fun x => by unfold Env.kindOf; rw [e1], f₁, env, fr, rfl, rfl⟩, fr, rfl, e2⟩
    · have := room.1; show A.depth + 1 + 4 * fi.rk + 5 < 1000; lia
    · have := room.2; show A.units + 3 + 20 * fi.rk + 190 < 9900; lia
    · show A.frames.map (env :: ·) = _; rw [frm]; rfl
    · rcases List.mem_cons.mp he with q | q
      · subst q
        obtain ⟨o, q1, q2, q3⟩ := hfo
        exact ⟨by rw [e1, h5]; decide, e.locals, o, e2, not_base hr e3, not_muts hr e3, q1, q2, q3⟩
      · exact (fo.ext ext₁) e q
  refine chkSs_sound 60 _ _ _ h14 _ _ _ _ _ _ _ _ _ _ st ?_
  cases hrun : aexecs T fi.fn.body (vs.map some ++ List.replicate (fi.names.length - vs.length) none) σ with
  | stuck => rw [hrun] at req; exact req.elim
  | exc c h' => rw [hrun] at req; exact req.elim
  | ok a σ₂ =>
    rw [hrun] at req
    obtain ⟨fl, l₂⟩ := a
    have o₃ : ∀ {ρ₂ : Pl} {s₂ : Shared}, OutS (own env) G ρ σ s₁ ρ₂ σ₂ s₂ → Out G ρ σ s ρ₂ σ₂ s₂ := fun o₂ => by
      have := o₁.trans (o₂.mono e4)
      exact ⟨this.hr, this.ext.toExt fun a e => e, this.gens, this.os⟩
    refine ⟨fun x ρ₂ s₂ o₂ hf f₂ => ?_, fun c hfl e ρ₂ s₂ o₂ er f₂ => ?_⟩
    rotate_left
    · dsimp only at hfl
      subst hfl
      have fo₂ := FrOk.ex o₂.ext st.fo
      have er' := er.le o₁.ext.dom
      have out := o₃ o₂
      unfold leaving
      refine wpAny_bind (land_lnd (h₀ := s.heap) st.frm fo₂ (fun a m => muts_lt o₂.hr m) o₂.hr.stays out.ext.dom er' fun h' x _ => ?_)
      have ff := fo₂.fsOk
      have o₄ := x.out ff out.s (ex := fun _ => False)
      exact tidyE_sound (b := fi.fn.pure) (Q := fun x s' => R (.ok (.ret x)) s') (E := fun e s' => R (.error e) s') hr ⟨o₄.hr, o₄.ext.toExt fun _ q => q.elim, o₄.gens, o₄.os⟩ x.er req
    have fin : (∀ c, fl ≠ .exc c) → ∀ {v : V} {y : Value}, VR G ρ₂ (muts ρ₂ σ₂) s₂.heap v y → flV fl = v → (match x with | .ret v => v | _ => .none) = y → R (.ok (.ret (match x with | .ret v => v | _ => .none))) s₂ := fun hne {v y} rv' ev ey => by
      rw [ey]
      have F := freeze_sound (b := fi.fn.frz) (n := σ.length) (o₃ o₂) rv'
      refine tidy_sound (b := fi.fn.pure) (Q := fun x s' => R (.ok (.ret x)) s') (E := fun e s' => R (.error e) s') hr F.1 F.2 ?_
      rw [← ev]
      rw [endFn_plain hne] at req
      exact req
    cases fl with
    | next => cases x <;> first | exact hf.elim | exact fin (fun _ e => by cases e) .none rfl rfl
    | cont => cases x <;> first | exact hf.elim | exact fin (fun _ e => by cases e) .none rfl rfl
    | ret v => cases x <;> first | exact hf.elim | exact fin (fun _ e => by cases e) hf rfl rfl
    | exc c => cases x <;> exact hf.elim
end
end Mine.Internal
namespace Mine.Internal
open PySem PyProof.Rows PySem.W

noncomputable def FF (P : PI) (sub : Nat → Nat → Bool) : Nat → Nat → List V → H → Res V
  | 0, _, _, _ => .stuck
  | k + 1, f, vs, h => match P.fns[f]? with
    | some fi => runFn (P.tab (FF P sub k) sub) fi.fn vs h
    | none => .stuck

noncomputable def clsOk (K : Frag) (P : PI) (ci : CI) : Bool :=
  makesIn K ci.addr && (match ci.init with
    | some f => (match P.fns[f]? with
      | some fi => findIn K (.ref ci.addr) "__init__" == some (some (.ref fi.addr)) && isFn K (.ref fi.addr)
      | none => false)
    | none => true) && keepIn K (.ref ci.addr) && plainGet K ci.addr "" && hasDictIn K ci.addr && plainOver K ci.addr && findIn K (.ref ci.addr) "__setattr__" == some (some (.builtin "object.__setattr__")) &&
  P.flds.all (fun n => findIn K (.ref ci.addr) (P.nmOf n) == some none) &&
  ci.meths.all (fun p => match P.fns[p.2]? with
    | some fi => findIn K (.ref ci.addr) (P.nmOf p.1) == some (some (.ref fi.addr)) && isFn K (.ref fi.addr)
    | none => false)

theorem nlookup_mem : ∀ {ms : List (Nat × Nat)} {n f : Nat}, ms.lookup n = some f → (n, f) ∈ ms
  | (a, b) :: r, n, f, h => by
    rw [List.lookup_cons] at h
    cases hb : n == a with
    | true => rw [hb] at h; cases h; rw [beq_iff_eq.mp hb]; exact .head _
    | false => rw [hb] at h; exact .tail _ (nlookup_mem h)

theorem clsOk_of {K : Frag} {P : PI} {ci : CI} (h : clsOk K P ci = true) : ClsOk K P ci := by
  unfold clsOk at h
  simp only [Bool.and_eq_true, beq_iff_eq, List.all_eq_true] at h
  obtain ⟨⟨⟨⟨⟨⟨⟨⟨h1, h2⟩, h3⟩, h4⟩, h5⟩, h6⟩, h7⟩, h8⟩, h9⟩ := h
  refine ⟨h1, fun f e => ?_, h3, h4, h5, h6, h7, h8, fun n f e => ?_⟩
  · rw [e] at h2
    dsimp only at h2
    split at h2
    · rename_i fi hfi
      simp only [Bool.and_eq_true, beq_iff_eq] at h2
      exact ⟨fi, hfi, h2⟩
    · cases h2
  · have := h9 _ (nlookup_mem e)
    dsimp only at this
    split at this
    · rename_i fi hfi
      simp only [Bool.and_eq_true, beq_iff_eq] at this
      exact ⟨fi, hfi, this⟩
    · cases this

noncomputable def mroOk (K : Frag) (P : PI) (ci : CI) : Bool := match ci.mro with
  | some m => excFull K ci.addr && (List.range P.cls.length).all fun d => subIn K (.ref ci.addr) (.ref (P.clsOf d)) == some (m.contains d)
  | none => true

noncomputable def piOk (K : Frag) (P : PI) : Bool := P.fns.all (fun fi => fnOk K P fi && keepIn K (.ref fi.addr)) && (P.cls.all (fun ci => ci.init.isNone || clsOk K P ci) && P.cls.all (fun ci => mroOk K P ci))

section
variable {prog : Program} {w : World} {K : Frag} {P : PI} {G : Cfg} {sub : Nat → Nat → Bool}

theorem all_sound (W : Wld G K) (hn : G.nm = P.nmOf) (hc : G.cls = P.clsOf) (hfl : G.flat = P.flatOf) (ok : piOk K P = true) : ∀ (k : Nat) (fb : Addr → Prop) (f : Nat) (fi : FnI), P.fns[f]? = some fi → SFn prog w { G with fb := fb } (P.tab (FF P sub k) sub) f fi
  | 0, fb, f, fi, hf => fun A fr ρ σ s vs xs R _ _ _ _ _ _ req => req.elim
  | k + 1, fb, f, fi, hf => by
    unfold piOk at ok
    simp only [Bool.and_eq_true, List.all_eq_true, Bool.or_eq_true] at ok
    have ih := all_sound W hn hc hfl (by unfold piOk; simp only [Bool.and_eq_true, List.all_eq_true, Bool.or_eq_true]; exact ok) k
    refine fn_sound (T := P.tab (FF P sub k) sub) (ok.1 fi (List.mem_of_getElem? hf)).1 ⟨⟨W.X, W.g, W.b, W.nl⟩, hn, hc, rfl, rfl, fun c ci e i => clsOk_of ?_, fun fb f fi e _ => ih fb f fi e, fun f fi e => (ok.1 fi (List.mem_of_getElem? e)).2, hfl, rfl, fun c m e => ?_⟩ fun vs h => ?_
    · exact (ok.2.1 ci (List.mem_of_getElem? e)).resolve_left (fun z => by rw [Option.isSome_iff_ne_none] at i; exact i (Option.isNone_iff_eq_none.mp z))
    · obtain ⟨ci, hci, hm⟩ := Option.bind_eq_some_iff.mp (show (P.cls[c]?).bind (·.mro) = some m from e)
      have z := ok.2.2 ci (List.mem_of_getElem? hci)
      unfold mroOk at z
      rw [hm] at z
      simp only [Bool.and_eq_true, List.all_eq_true, beq_iff_eq] at z
      have hC : P.clsOf c = ci.addr := by unfold PI.clsOf; rw [hci]; rfl
      rw [MroOk, hC]
      exact ⟨z.1, fun d hd => z.2 d (List.mem_range.mpr hd)⟩
    · show FF P sub (k + 1) f vs h = _
      rw [FF, hf]

noncomputable def fragAt (h : Heap) (as : List Addr) : Frag := as.filterMap fun a => (h.get? a).map fun o => (a, o)
theorem fragAt_in (h : Heap) : ∀ (as : List Addr), (fragAt h as).In h
  | [], _, _, e => by cases e
  | b :: as, a, o, e => by
    unfold fragAt at e
    rw [List.filterMap_cons] at e
    cases hb : h.get? b with
    | none => rw [hb] at e; exact fragAt_in h as a o e
    | some ob =>
      rw [hb] at e
      have e' : (match a == b with | true => some ob | false => List.lookup a (fragAt h as)) = some o := e
      cases q : a == b with
      | true => rw [q] at e'; cases e'; rw [beq_iff_eq.mp q]; exact hb
      | false => rw [q] at e'; exact fragAt_in h as a o e'
noncomputable def lawAt (P : PI) (law : Addr) (K : Frag) : Bool := piOk K P && nsIn K mainGlobals "law" == some (some (.ref law))
noncomputable def hook (P : PI) (law : Addr) (as : List Addr) : Hook where
  α := Bool
  obs := fun s => lawAt P law (fragAt s.heap as)
  val := fun _ => true
  says := fun _ h => ∃ K : Frag, K.In h ∧ lawAt P law K = true
  of := fun _ s e => ⟨_, fragAt_in s.heap as, e⟩
  keeps := fun _ _ _ ⟨K, x, e⟩ k => ⟨K, x.keeps k, e⟩

theorem ints_VR {h : Heap} {mu : Addr → Prop} {ρ : Pl} : ∀ {vs : List Value} {ns : List Int}, IntsAre vs ns → VRs G ρ mu h (ns.map .int) vs
  | _, _, .nil => .nil
  | _, _, .cons n t r => .cons (.int n t) (ints_VR r)

theorem law_call {s₁ : Shared} {mg mb : Str → Option Value} {k f : Nat} {fi : FnI} {l : Addr} {xs : List Value} {ns : List Int} {σ' : H} {R : Result → Shared → Prop} (_hs : ∀ c d, sub c d = true → c = d) (ok : piOk K P = true) (X : K.In s₁.heap) (hg : s₁.heap.Ns mainGlobals mg) (hb : s₁.heap.Ns builtinsNs mb)
    (hbb : ∀ x : Str, x ≠ "__name__" → mb x = bootBuiltins x) (nl : s₁.heap.NoLimit) (hf : P.fns[f]? = some fi) (hrk : fi.rk ≤ 100) (hL : s₁.heap.IsList l xs.toArray) (hI : IntsAre xs ns) (hlen : ns.length ≤ 63)
    (run : FF P sub k f [.lst (ns.map .int)] [] = .ok (.bool true) σ') (fin : ∀ s', s₁.heap.StaysIn s'.heap → s'.gens = s₁.gens → s'.os = s₁.os → R (.ok (.ret (.bool true))) s') :
    codeAny (model prog w) callerA (.call (.ref fi.addr) ⟨[.ref l], []⟩) R s₁ := by
  have S := all_sound (prog := prog) (w := w) (sub := sub) (G := ⟨s₁.heap, P.nmOf, P.clsOf, P.flatOf, fun _ => False⟩) ⟨X, ⟨mg, hg⟩, ⟨mb, hb, hbb⟩, nl⟩ rfl rfl rfl ok k (fun _ => False) f fi hf
  obtain ⟨o, ho, hc, n, hd⟩ := hL
  have hm : ∀ a, ¬ muts [] [] a := fun a ⟨i, _, _, h, _⟩ => by simp at h
  refine S callerA [] [] [] s₁ [.lst (ns.map .int)] [.ref l] R ⟨?_, ?_⟩ (.inl rfl) rfl (fun e he => nomatch he) ⟨fun b o e => e, fun a q => q.elim, rfl, fun i o p h => by simp at h, fun a m => (hm a m).elim, fun i j o o' p q h => by simp at h, fun a q => q.elim⟩
    (.cons (.lst ho (fun q => q.elim (hm l) id) hc hd (by simpa using ints_VR hI) (by simp; lia)) .nil) ?_
  · show 1 + claimMargin + 4 * fi.rk + 6 < 1000
    unfold claimMargin; lia
  · show 4 + 20 * fi.rk + 200 < 9900
    lia
  · unfold ReqR
    show Req _ _ _ _ (FF P sub k f [.lst (ns.map .int)] []) _ _ _
    rw [run]
    intro x ρ' s' o r
    cases r
    exact fin s' o.hr.stays o.gens o.os
end
end Mine.Internal
namespace Mine.Internal
open PySem

mutual
theorem V.under_mono {m n : Nat} (h : m ≤ n) : ∀ (v : V), v.under m = true → v.under n = true
  | .none, _ => rfl
  | .bool _, _ => rfl
  | .int _, _ => rfl
  | .str _, _ => rfl
  | .tup vs, e => by unfold V.under at e ⊢; exact unders_mono h vs e
  | .lst vs, e => by unfold V.under at e ⊢; exact unders_mono h vs e
  | .rng _ _ _, _ => rfl
  | .ref i, e => by unfold V.under at e ⊢; simp at e ⊢; lia
  | .exc _, _ => rfl
theorem unders_mono {m n : Nat} (h : m ≤ n) : ∀ (vs : List V), unders m vs = true → unders n vs = true
  | [], _ => rfl
  | v :: vs, e => by
    unfold unders at e ⊢
    obtain ⟨a, b⟩ := Bool.and_eq_true_iff.mp e
    rw [V.under_mono h v a, unders_mono h vs b]; rfl
end

theorem freeze_plain {b : Bool} {n : Nat} {v : V} {h : H} (hv : v.under n = true) : freeze b n v h = (v, h) := by
  unfold freeze
  split
  · rename_i i
    unfold V.under at hv
    simp at hv
    rw [if_neg (by first | decide | lia)]
  · rfl

theorem Fl.notExc {fl : Fl} (h : fl.isExc = false) : ∀ c, fl ≠ .exc c := fun c e => by rw [e] at h; cases h
theorem runFn_pure {T : Tab} {fn : Fn} {args : List V} {h ext : H} {fl : Fl} {l' : L} {v : V} (hlen : args.length = fn.params) (hp : fn.pure = true)
    (he : aexecs T fn.body (args.map some ++ List.replicate (fn.slots - fn.params) none) h = .ok (fl, l') (h ++ ext)) (ev : flV fl = v) (hv : v.under h.length = true) (hx : fl.isExc = false := by rfl) : runFn T fn args h = .ok v h := by
  unfold runFn
  rw [if_pos hlen, he, endFn_plain (Fl.notExc hx)]
  rw [ev, freeze_plain hv]
  unfold tidy
  rw [if_pos hp, if_pos ⟨by simp, hv⟩]

theorem runFn_pure' {T : Tab} {fn : Fn} {args : List V} {h : H} {fl : Fl} {l' : L} {v : V} (hlen : args.length = fn.params) (hp : fn.pure = true)
    (he : aexecs T fn.body (args.map some ++ List.replicate (fn.slots - fn.params) none) h = .ok (fl, l') h) (ev : flV fl = v) (hv : v.under 0 = true) (hx : fl.isExc = false := by rfl) : runFn T fn args h = .ok v h :=
  runFn_pure (ext := []) hlen hp (by simpa using he) ev (V.under_mono (Nat.zero_le _) v hv) hx

theorem runFn_frz {T : Tab} {fn : Fn} {args : List V} {h ext : H} {fl : Fl} {l' : L} {j : Nat} {vs : List V} (hlen : args.length = fn.params) (hp : fn.pure = true) (hz : fn.frz = true)
    (he : aexecs T fn.body (args.map some ++ List.replicate (fn.slots - fn.params) none) h = .ok (fl, l') (h ++ ext)) (ev : flV fl = .ref (h.length + j)) (hj : ext[j]? = some (.list vs)) (hv : unders h.length vs = true) (hx : fl.isExc = false := by rfl) : runFn T fn args h = .ok (.lst vs) h := by
  unfold runFn
  rw [if_pos hlen, he, endFn_plain (Fl.notExc hx)]
  have hget : (h ++ ext)[h.length + j]? = some (.list vs) := by rw [List.getElem?_append_right (by first | decide | lia)]; simpa using hj
  have hf : freeze fn.frz h.length (flV fl) (h ++ ext) = (.lst vs, (h ++ ext).set (h.length + j) .dead) := by
    unfold freeze
    rw [hz, ev]
    simp only
    rw [if_pos (by first | decide | lia), hget]
  rw [hf]
  unfold tidy
  rw [if_pos hp, if_pos ⟨by rw [List.set_append_right _ _ (by first | decide | lia)]; simp, by unfold V.under; exact hv⟩]

abbrev Ent := Int × Str
noncomputable def ent (e : Ent) : V := .tup [.int e.1, .str e.2]
noncomputable def row (r : List Ent) : V := .lst (r.map ent)
noncomputable def dent (e : Ent) : PyData := .tuple [.int e.1, .str e.2]

theorem mapM_ent {h : H} {d : Nat} : ∀ (r : List Ent), (r.map ent).mapM (toD h (d + 2)) = some (r.map dent)
  | [] => rfl
  | e :: r => by
    rw [List.map_cons, List.mapM_cons, mapM_ent r]
    rfl
theorem toD_row {h : H} {d : Nat} (r : List Ent) : toD h (d + 3) (row r) = some (.list (r.map dent)) := by
  show ((r.map ent).mapM (toD h (d + 2))).map PyData.list = _
  rw [mapM_ent]; rfl
theorem eqv_ent (a b : Ent) : PyData.eqv (dent a) (dent b) = decide (a = b) := by
  obtain ⟨a1, a2⟩ := a
  obtain ⟨b1, b2⟩ := b
  simp only [dent, PyData.eqv, PyData.eqvAll, Bool.and_true, Prod.mk.injEq]
  by_cases h1 : a1 = b1 <;> by_cases h2 : a2 = b2 <;> simp [h1, h2]
theorem eqvAll_row : ∀ (r q : List Ent), PyData.eqvAll (r.map dent) (q.map dent) = decide (r = q)
  | [], [] => by simp [PyData.eqvAll]
  | [], _ :: _ => by simp [PyData.eqvAll]
  | _ :: _, [] => by simp [PyData.eqvAll]
  | a :: r, b :: q => by
    rw [List.map_cons, List.map_cons, PyData.eqvAll, eqv_ent, eqvAll_row r q]
    by_cases h1 : a = b <;> by_cases h2 : r = q <;> simp [h1, h2]
theorem eqv_row (r q : List Ent) : PyData.eqv (.list (r.map dent)) (.list (q.map dent)) = decide (r = q) := by
  rw [PyData.eqv, eqvAll_row]
theorem under_ent (n : Nat) (e : Ent) : (ent e).under n = true := rfl
theorem unders_row (n : Nat) : ∀ (r : List Ent), unders n (r.map ent) = true
  | [] => rfl
  | e :: r => by rw [List.map_cons]; unfold unders; rw [under_ent, unders_row n r]; rfl
theorem under_row (n : Nat) (r : List Ent) : (row r).under n = true := unders_row n r
theorem unders_ints (n : Nat) : ∀ (r : List Int), unders n (r.map .int) = true
  | [] => rfl
  | e :: r => by rw [List.map_cons]; unfold unders; rw [unders_ints n r]; rfl

theorem loopComp_rng {cond : V → H → Res Bool} {elt : V → H → Res V} {lo st : Int} {N : Nat} {f : Nat → V} {h : H} (hc : ∀ k < N, cond (.int (lo + st * k)) h = .ok true h) (he : ∀ k < N, elt (.int (lo + st * k)) h = .ok (f k) h) (hN : N ≤ 2 ^ 20) :
    ∀ (n k : Nat), k + n = N → loopComp (.rng lo N st) cond elt (n + 1) k ((List.range k).map f) h = .ok ((List.range N).map f) h
  | 0, k, e => by
    unfold loopComp nextOf
    have : ¬ k < N := by lia
    simp only [this, if_false]
    rw [show k = N by lia]
  | n + 1, k, e => by
    unfold loopComp nextOf
    have hk : k < N := by lia
    simp only [hk, if_true, hc k hk, he k hk]
    have : ((List.range k).map f).length < 2 ^ 20 := by simp; lia
    rw [if_pos this]
    have e2 : (List.range k).map f ++ [f k] = (List.range (k + 1)).map f := by rw [List.range_succ]; simp
    rw [e2]
    exact loopComp_rng hc he hN n (k + 1) (by first | decide | lia)

theorem comp_rng {T : Tab} {m : Bool} {elt it : CE} {l : L} {h : H} {lo st : Int} {N : Nat} {f : Nat → V} (hi : aeval T it l h = .ok (.rng lo N st) h) (he : ∀ k < N, aeval T elt (some (.int (lo + st * k)) :: l) h = .ok (f k) h) (hN : N ≤ 2 ^ 20) :
    aeval T (.comp m elt it) l h = newList m ((List.range N).map f) h := by
  rw [ae_comp, hi]
  simp only [Res.bind, srcLen]
  have := loopComp_rng (cond := fun _ h => .ok true h) (elt := fun v h => aeval T elt (some v :: l) h) (lo := lo) (st := st) (h := h) (fun _ _ => rfl) he hN N 0 (by first | decide | lia)
  simp only [List.range_zero, List.map_nil] at this
  rw [this]

theorem idx_nat {n k : Nat} (h : k < n) (hn : n ≤ 2 ^ 20) : idx n (k : Int) = some k := by
  have h1 : -(2 ^ 62) < (k : Int) ∧ (k : Int) < 2 ^ 62 := by lia
  have h2 : (0 : Int) ≤ k := by lia
  have h3 : (k : Int) < n := by lia
  simp only [idx, h1, h2, h3, and_self, if_true, Int.toNat_natCast]
theorem idx_int {n : Nat} {i : Int} (h0 : 0 ≤ i) (h : i < n) (hn : n ≤ 2 ^ 20) : idx n i = some i.toNat := by
  have h1 : -(2 ^ 62) < i ∧ i < 2 ^ 62 := by lia
  simp only [idx, h1, h0, h, and_self, if_true]
theorem small_of {i : Int} (h1 : -4611686018427387904 < i) (h2 : i < 4611686018427387904) : small i = true := by
  have : -(2 ^ 63) < i ∧ i < 2 ^ 63 := by lia
  simp only [small, this, and_self, decide_true]
theorem mid_of {i : Int} (h1 : -1152921504606846976 < i) (h2 : i < 1152921504606846976) : mid i = true := by
  have : -(2 ^ 62) < i ∧ i < 2 ^ 62 := by lia
  simp only [mid, this, and_self, decide_true]
theorem fmod_bounds (x : Int) {y : Int} (h : 0 < y) : 0 ≤ x.fmod y ∧ x.fmod y < y := ⟨Int.fmod_nonneg_of_pos _ h, Int.fmod_lt_of_pos _ h⟩

noncomputable def andThen (r : Res (Fl × L)) (k : L → H → Res (Fl × L)) : Res (Fl × L) :=
  match r with
  | .ok (.next, l) h => k l h
  | .ok (.cont, l) h => .ok (.cont, l) h
  | .ok (.ret v, l) h => .ok (.ret v, l) h
  | .ok (.exc c, l) h => .ok (.exc c, l) h
  | .exc c h => .exc c h
  | .stuck => .stuck
section
variable {T : Tab} {l : L} {h : H} {r : List CS}
theorem bind_val {α β : Type} {a : α} {f : α → H → Res β} : (Res.ok a h).bind f = f a h := (fun _ => rfl : True → _) trivial
theorem sbind_val {α : Type} {a : α} {f : α → H → Res (Fl × L)} : (Res.ok a h).sbind l f = f a h := (fun _ => rfl : True → _) trivial
theorem then_exc {c : Nat} {k : L → H → Res (Fl × L)} : andThen (.ok (.exc c, l) h) k = .ok (.exc c, l) h := (fun _ => rfl : True → _) trivial
theorem then_next {k : L → H → Res (Fl × L)} : andThen (.ok (.next, l) h) k = k l h := (fun _ => rfl : True → _) trivial
theorem then_cont {k : L → H → Res (Fl × L)} : andThen (.ok (.cont, l) h) k = .ok (.cont, l) h := (fun _ => rfl : True → _) trivial
theorem then_ret {v : V} {k : L → H → Res (Fl × L)} : andThen (.ok (.ret v, l) h) k = .ok (.ret v, l) h := (fun _ => rfl : True → _) trivial
theorem ex_cons {s : CS} : aexecs T (s :: r) l h = andThen (aexec T s l h) (aexecs T r) := by
  rw [axs_cons]
  cases aexec T s l h with
  | ok a h => obtain ⟨f, l⟩ := a; cases f <;> rfl
  | exc c h => rfl
  | stuck => rfl
theorem ex_nil : aexecs T [] l h = .ok (.next, l) h := axs_nil
theorem ex_assign {j : Nat} {e : CE} {v : V} {h' : H} (he : aeval T e l h = .ok v h') : aexecs T (.assign j e :: r) l h = aexecs T r (l.set j (some v)) h' := by rw [ex_cons, ax_assign, he]; rfl
theorem ex_ret {e : CE} {v : V} {h' : H} (he : aeval T e l h = .ok v h') : aexecs T (.ret e :: r) l h = .ok (.ret v, l) h' := by rw [ex_cons, ax_ret, he]; rfl
theorem ex_expr {e : CE} {v : V} {h' : H} (he : aeval T e l h = .ok v h') : aexecs T (.expr e :: r) l h = aexecs T r l h' := by rw [ex_cons, ax_expr, he]; rfl
theorem ex_true {c : CE} {t e : List CS} {h' : H} (he : aeval T c l h = .ok (.bool true) h') : aexecs T (.ite c t e :: r) l h = andThen (aexecs T t l h') (aexecs T r) := by
  rw [ex_cons, ax_ite]; unfold atrue; rw [he]; rfl
theorem ex_false {c : CE} {t e : List CS} {h' : H} (he : aeval T c l h = .ok (.bool false) h') : aexecs T (.ite c t e :: r) l h = andThen (aexecs T e l h') (aexecs T r) := by
  rw [ex_cons, ax_ite]; unfold atrue; rw [he]; rfl
theorem ex_true_ret {c : CE} {t e : List CS} {h' h'' : H} {v : V} {l' : L} (he : aeval T c l h = .ok (.bool true) h') (ht : aexecs T t l h' = .ok (.ret v, l') h'') : aexecs T (.ite c t e :: r) l h = .ok (.ret v, l') h'' := by rw [ex_true he, ht, then_ret]
theorem ex_true_next {c : CE} {t e : List CS} {h' h'' : H} {l' : L} (he : aeval T c l h = .ok (.bool true) h') (ht : aexecs T t l h' = .ok (.next, l') h'') : aexecs T (.ite c t e :: r) l h = aexecs T r l' h'' := by rw [ex_true he, ht, then_next]
theorem ex_false_ret {c : CE} {t e : List CS} {h' h'' : H} {v : V} {l' : L} (he : aeval T c l h = .ok (.bool false) h') (ht : aexecs T e l h' = .ok (.ret v, l') h'') : aexecs T (.ite c t e :: r) l h = .ok (.ret v, l') h'' := by rw [ex_false he, ht, then_ret]
theorem ex_false_next {c : CE} {t e : List CS} {h' h'' : H} {l' : L} (he : aeval T c l h = .ok (.bool false) h') (ht : aexecs T e l h' = .ok (.next, l') h'') : aexecs T (.ite c t e :: r) l h = aexecs T r l' h'' := by rw [ex_false he, ht, then_next]
theorem ex_false_nil {c : CE} {t : List CS} {h' : H} (he : aeval T c l h = .ok (.bool false) h') : aexecs T (.ite c t [] :: r) l h = aexecs T r l h' := ex_false_next he ex_nil
theorem ex_for {j : Nat} {it : CE} {body : List CS} {src : V} {h' : H} (he : aeval T it l h = .ok src h') : aexecs T (.for j it body :: r) l h = andThen (loopFor src (fun v l h => aexecs T body (l.set j (some v)) h) (srcLen src h' + 1) 0 l h') (aexecs T r) := by
  rw [ex_cons, ax_for, he]; rfl
theorem ex_setattr {o e : CE} {n : Nat} {v x : V} {h' h'' h₃ : H} (he : aeval T e l h = .ok v h') (ho : aeval T o l h' = .ok x h'') (hs : setattrop T x n v h'' = .ok () h₃) : aexecs T (.setattr o n e :: r) l h = aexecs T r l h₃ := by
  rw [ex_cons, ax_setattr, he, sbind_val, ho, sbind_val, hs]; rfl
theorem ex_setitem {o i e : CE} {v x y : V} {h' h'' h₃ h₄ : H} (he : aeval T e l h = .ok v h') (ho : aeval T o l h' = .ok x h'') (hi : aeval T i l h'' = .ok y h₃) (hs : setitemop x y v h₃ = .ok () h₄) : aexecs T (.setitem o i e :: r) l h = aexecs T r l h₄ := by
  rw [ex_cons, ax_setitem, he, sbind_val, ho, sbind_val, hi, sbind_val, hs]; rfl
end

theorem some1_val {α β : Type} {o : Option β} {x : β} {k : β → Res α} (e : o = some x) : some1 o k = k x := by rw [e]; rfl
theorem when1_val {α : Type} {c : Bool} {r : Res α} (e : c = true) : when1 c r = r := by rw [e]; rfl
theorem sub_of {vs : List V} {i : Int} {h : H} {k : Nat} {v : V} (e : idx vs.length i = some k) (hv : vs[k]? = some v) : (some1 (idx vs.length i) fun k => some1 vs[k]? fun v => .ok v h) = .ok v h := (some1_val e).trans (some1_val hv)
theorem sub_lst {vs : List V} {i : Int} {h : H} {k : Nat} {v : V} (e : idx vs.length i = some k) (hv : vs[k]? = some v) : subop (.lst vs) (.int i) h = .ok v h := sub_of e hv
theorem sub_row {r : List Ent} {i : Int} {h : H} {e : Ent} (h0 : 0 ≤ i) (he : r[i.toNat]? = some e) (hr : r.length ≤ 2 ^ 20) : subop (row r) (.int i) h = .ok (ent e) h := by
  have hlt : i.toNat < r.length := (List.getElem?_eq_some_iff.mp he).1
  refine sub_lst (k := i.toNat) ?_ (by rw [List.getElem?_map, he]; rfl)
  rw [List.length_map]
  exact idx_int h0 (by first | decide | lia) hr
theorem sub_ent0 {e : Ent} {h : H} : subop (ent e) (.int 0) h = .ok (.int e.1) h := (fun _ => rfl : True → _) trivial
theorem sub_ent1 {e : Ent} {h : H} : subop (ent e) (.int 1) h = .ok (.str e.2) h := (fun _ => rfl : True → _) trivial
theorem sub_str {s : Str} {i : Int} {h : H} {c : Nat} (h0 : 0 ≤ i) (hi : i < s.cps.size) (hn : s.cps.size ≤ 2 ^ 20) (hc : s.cps[i.toNat]? = some c) : subop (.str s) (.int i) h = .ok (.str ⟨#[c]⟩) h :=
  (some1_val (idx_int h0 hi hn)).trans (some1_val hc)

section
variable {m : Bool} {h : H} {x y : Int}
theorem bo_add : binop m .add (.int x) (.int y) h = .ok (.int (x + y)) h := (fun _ => rfl : True → _) trivial
theorem bo_sub : binop m .sub (.int x) (.int y) h = .ok (.int (x - y)) h := (fun _ => rfl : True → _) trivial
theorem bo_mulL (hx : small x = true) : binop m .mul (.int x) (.int y) h = .ok (.int (x * y)) h := when1_val (by rw [hx]; rfl)
theorem bo_mulR (hy : small y = true) : binop m .mul (.int x) (.int y) h = .ok (.int (x * y)) h := when1_val (by rw [hy, Bool.or_true])
theorem bo_fdiv (h1 : 0 < y) (h2 : y < 1073741824) : binop m .fdiv (.int x) (.int y) h = .ok (.int (x.fdiv y)) h := when1_val (decide_eq_true ⟨h1, h2⟩)
theorem bo_mod (h1 : y ≠ 0) : binop m .mod (.int x) (.int y) h = .ok (.int (x.fmod y)) h := when1_val (decide_eq_true h1)
theorem bo_pow (hx : small x = true) (h1 : 0 ≤ y) (h2 : y ≤ 1000) : binop m .pow (.int x) (.int y) h = .ok (.int (x ^ y.toNat)) h := when1_val (by rw [hx, decide_eq_true ⟨h1, h2⟩]; rfl)
theorem co_eq : cmpop .eq (.int x) (.int y) h = .ok (.bool (decide (x = y))) h := by
  show Res.ok (V.bool (PyData.eqv (.int x) (.int y))) h = _
  have : (x == y) = decide (x = y) := by by_cases q : x = y <;> simp [q]
  simp only [PyData.eqv, this]
theorem co_ne : cmpop .ne (.int x) (.int y) h = .ok (.bool (decide (x ≠ y))) h := by
  show Res.ok (V.bool (!PyData.eqv (.int x) (.int y))) h = _
  have : (!(x == y)) = decide (x ≠ y) := by by_cases q : x = y <;> simp [q]
  simp only [PyData.eqv, this]
theorem co_lt : cmpop .lt (.int x) (.int y) h = .ok (.bool (decide (x < y))) h := (fun _ => rfl : True → _) trivial
theorem co_le : cmpop .le (.int x) (.int y) h = .ok (.bool (decide (x ≤ y))) h := (fun _ => rfl : True → _) trivial
theorem co_gt : cmpop .gt (.int x) (.int y) h = .ok (.bool (decide (y < x))) h := (fun _ => rfl : True → _) trivial
theorem co_ge : cmpop .ge (.int x) (.int y) h = .ok (.bool (decide (y ≤ x))) h := (fun _ => rfl : True → _) trivial
theorem co_bool {a b : Bool} : cmpop .eq (.bool a) (.bool b) h = .ok (.bool (a == b)) h := by
  show Res.ok (V.bool (PyData.eqv (.bool a) (.bool b))) h = _
  cases a <;> cases b <;> rfl
theorem co_row {r q : List Ent} : cmpop .eq (row r) (row q) h = .ok (.bool (decide (r = q))) h := by
  have e1 : toD h 8 (row r) = some (.list (r.map dent)) := toD_row (d := 5) r
  have e2 : toD h 8 (row q) = some (.list (q.map dent)) := toD_row (d := 5) q
  exact (some1_val e1).trans ((some1_val e2).trans (by rw [eqv_row]))
theorem po_len {vs : List V} : primop .len [.lst vs] h = .ok (.int vs.length) h := (fun _ => rfl : True → _) trivial
theorem po_lenRow {r : List Ent} : primop .len [row r] h = .ok (.int r.length) h := by
  show Res.ok (V.int ((r.map ent).length : Nat)) h = _
  rw [List.length_map]
theorem po_lenT {vs : List V} : primop .len [.tup vs] h = .ok (.int vs.length) h := (fun _ => rfl : True → _) trivial
theorem po_range (h1 : 0 ≤ x) (h2 : x < 1000000) : primop .range [.int x] h = .ok (.rng 0 x.toNat 1) h := by
  refine (when1_val (mid_of (by first | decide | lia) (by first | decide | lia))).trans ?_
  unfold rngLen
  rw [if_pos (by decide)]
  split
  · simp
  · rw [show x = 0 by lia]; rfl
theorem po_listRow {r : List Ent} (hr : r.length ≤ 2 ^ 20) : primop (.list false) [row r] h = .ok (row r) h := by
  show newList false (r.map ent) h = _
  unfold newList
  rw [if_pos (by simpa using hr)]; rfl
theorem tr_bool {b : Bool} : truthy (.bool b) h = .ok b h := (fun _ => rfl : True → _) trivial
end
theorem tab_F {P : PI} {F : Nat → List V → H → Res V} {sub : Nat → Nat → Bool} : (P.tab F sub).F = F := (fun _ => rfl : True → _) trivial
theorem FF_at {P : PI} {sub : Nat → Nat → Bool} {k f : Nat} {fi : FnI} {vs : List V} {h : H} (hf : P.fns[f]? = some fi) : FF P sub (k + 1) f vs h = runFn (P.tab (FF P sub k) sub) fi.fn vs h := by rw [FF, hf]
end Mine.Internal
namespace Mine.Internal
open PySem
theorem loopFor_inv {src : V} {body : V → L → H → Res (Fl × L)} (items : List V) (I : Nat → L → H → Prop) (Q : Res (Fl × L) → Prop)
    (hs : ∀ k l h, I k l h → nextOf src k h = some items[k]?)
    (step : ∀ k v l h, items[k]? = some v → I k l h → (∃ l' h', (body v l h = .ok (.next, l') h' ∨ body v l h = .ok (.cont, l') h') ∧ I (k + 1) l' h') ∨ (∃ w l' h', body v l h = .ok (.ret w, l') h' ∧ Q (.ok (.ret w, l') h')))
    (fin : ∀ l h, I items.length l h → Q (.ok (.next, l) h)) :
    ∀ (n k : Nat) (l : L) (h : H), k + n = items.length → I k l h → Q (loopFor src body (n + 1) k l h)
  | 0, k, l, h, e, hI => by
    unfold loopFor
    rw [hs k l h hI, List.getElem?_eq_none (by first | decide | lia)]
    exact fin l h (by rw [← e]; exact hI)
  | n + 1, k, l, h, e, hI => by
    have hk : k < items.length := by lia
    unfold loopFor
    rw [hs k l h hI, List.getElem?_eq_getElem hk]
    dsimp only
    rcases step k items[k] l h (List.getElem?_eq_getElem hk) hI with ⟨l', h', hb, hI'⟩ | ⟨w, l', h', hb, hq⟩
    · rcases hb with hb | hb <;> rw [hb] <;> exact loopFor_inv items I Q hs step fin n (k + 1) l' h' (by first | decide | lia) hI'
    · rw [hb]; exact hq
theorem loopComp_inv {src : V} {cond : V → H → Res Bool} {elt : V → H → Res V} (items : List V) (I : Nat → List V → H → Prop)
    (hs : ∀ k acc h, I k acc h → nextOf src k h = some items[k]?)
    (step : ∀ k v acc h, items[k]? = some v → I k acc h → (∃ h', cond v h = .ok false h' ∧ I (k + 1) acc h') ∨ (∃ h' x h'', cond v h = .ok true h' ∧ elt v h' = .ok x h'' ∧ acc.length < 2 ^ 20 ∧ I (k + 1) (acc ++ [x]) h'')) :
    ∀ (n k : Nat) (acc : List V) (h : H), k + n = items.length → I k acc h → ∃ acc' h', loopComp src cond elt (n + 1) k acc h = .ok acc' h' ∧ I items.length acc' h'
  | 0, k, acc, h, e, hI => ⟨acc, h, by
      unfold loopComp
      rw [hs k acc h hI, List.getElem?_eq_none (by first | decide | lia)], by rw [← e]; exact hI⟩
  | n + 1, k, acc, h, e, hI => by
    have hk : k < items.length := by lia
    unfold loopComp
    rw [hs k acc h hI, List.getElem?_eq_getElem hk]
    dsimp only
    rcases step k items[k] acc h (List.getElem?_eq_getElem hk) hI with ⟨h', hc, hI'⟩ | ⟨h', x, h'', hc, he, hl, hI'⟩
    · rw [hc]; exact loopComp_inv items I hs step n (k + 1) acc h' (by first | decide | lia) hI'
    · rw [hc]
      dsimp only
      rw [he]
      dsimp only
      rw [if_pos hl]
      exact loopComp_inv items I hs step n (k + 1) (acc ++ [x]) h'' (by first | decide | lia) hI'
theorem next_lst {vs : List V} {k : Nat} {h : H} : nextOf (.lst vs) k h = some vs[k]? := (fun _ => rfl : True → _) trivial
theorem next_rng {lo st : Int} {N k : Nat} {h : H} : nextOf (.rng lo N st) k h = some (rngItems lo N st)[k]? := by
  unfold nextOf rngItems
  by_cases hk : k < N
  · simp [hk]
  · simp [hk]
theorem len_rng {lo st : Int} {N : Nat} : (rngItems lo N st).length = N := by simp [rngItems]
theorem get_rng {lo st : Int} {N k : Nat} {v : V} (h : (rngItems lo N st)[k]? = some v) : k < N ∧ v = .int (lo + st * k) := by
  have hk : k < N := by have := (List.getElem?_eq_some_iff.mp h).1; rwa [len_rng] at this
  refine ⟨hk, ?_⟩
  unfold rngItems at h
  rw [List.getElem?_map, List.getElem?_range hk] at h
  simpa using h.symm
theorem loopComp_filter {cond : V → H → Res Bool} {elt : V → H → Res V} {vs : List V} {c : V → Bool} {h : H} (hN : vs.length ≤ 2 ^ 20)
    (hc : ∀ v, v ∈ vs → cond v h = .ok (c v) h) (he : ∀ v, v ∈ vs → elt v h = .ok v h) :
    loopComp (.lst vs) cond elt (vs.length + 1) 0 [] h = .ok (vs.filter c) h := by
  obtain ⟨acc, h', e1, e2, e3⟩ := loopComp_inv (src := .lst vs) (cond := cond) (elt := elt) vs (fun k acc h' => h' = h ∧ acc = (vs.take k).filter c) (fun _ _ _ _ => next_lst) (fun k v acc h' hv ⟨e1, e2⟩ => by
    subst e1 e2
    have hk : k < vs.length := (List.getElem?_eq_some_iff.mp hv).1
    have hm : v ∈ vs := List.mem_of_getElem? hv
    have ht : vs.take (k + 1) = vs.take k ++ [v] := by rw [List.take_add_one, hv]; rfl
    cases q : c v with
    | false => exact .inl ⟨h', by rw [hc v hm, q], rfl, by rw [ht, List.filter_append]; simp [q]⟩
    | true =>
      refine .inr ⟨h', v, h', by rw [hc v hm, q], he v hm, ?_, rfl, by rw [ht, List.filter_append]; simp [q]⟩
      have := List.length_filter_le c (vs.take k)
      have := List.length_take_le k vs
      have : (vs.take k).length < vs.length := by rw [List.length_take]; lia
      lia) vs.length 0 [] h (by first | decide | lia) ⟨rfl, rfl⟩
  rw [e1, e2, e3, List.take_length]
theorem mapM_ints {h : H} {d : Nat} : ∀ (r : List Int), (r.map V.int).mapM (toD h (d + 1)) = some (r.map PyData.int)
  | [] => rfl
  | e :: r => by rw [List.map_cons, List.mapM_cons, mapM_ints r]; rfl
theorem eqvAll_ints : ∀ (r q : List Int), PyData.eqvAll (r.map PyData.int) (q.map PyData.int) = decide (r = q)
  | [], [] => by simp [PyData.eqvAll]
  | [], _ :: _ => by simp [PyData.eqvAll]
  | _ :: _, [] => by simp [PyData.eqvAll]
  | a :: r, b :: q => by
    rw [List.map_cons, List.map_cons, PyData.eqvAll, eqvAll_ints r q]
    by_cases h1 : a = b <;> by_cases h2 : r = q <;> simp [PyData.eqv, h1, h2]
theorem ne_ints {r q : List Int} {h : H} : cmpop .ne (.lst (r.map .int)) (.lst (q.map .int)) h = .ok (.bool (decide (r ≠ q))) h := by
  have e1 : ∀ r : List Int, toD h 8 (.lst (r.map .int)) = some (.list (r.map PyData.int)) := fun r => by
    show ((r.map V.int).mapM (toD h 7)).map PyData.list = _
    rw [mapM_ints (d := 6)]; rfl
  refine (some1_val (e1 r)).trans ((some1_val (e1 q)).trans ?_)
  rw [PyData.eqv, eqvAll_ints]
  by_cases q' : r = q <;> simp [q']
section
variable {h : H} {x y : Int}
theorem po_range2 (h1 : -1000000 < x) (h2 : x < 1000000) (h3 : -1000000 < y) (h4 : y < 1000000) (h5 : x ≤ y) : primop .range [.int x, .int y] h = .ok (.rng x (y - x).toNat 1) h := by
  refine (when1_val (by rw [mid_of (by first | decide | lia) (by first | decide | lia), mid_of (by first | decide | lia) (by first | decide | lia)]; rfl)).trans ?_
  unfold rngLen
  rw [if_pos (by decide)]
  split
  · rfl
  · rw [show y = x by lia]; simp
theorem po_rangeDown (h1 : 0 ≤ x) (h2 : x < 1000000) : primop .range [.int x, .int 0, .int (-1)] h = .ok (.rng x x.toNat (-1)) h := by
  refine (when1_val (by rw [mid_of (by first | decide | lia) (by first | decide | lia), mid_of (by first | decide | lia) (by first | decide | lia)]; rfl)).trans ?_
  unfold rngLen
  rw [if_neg (by decide)]
  split
  · simp
  · rw [show x = 0 by lia]; rfl
theorem po_listInts {r : List Int} (hr : r.length ≤ 2 ^ 20) : primop (.list false) [.lst (r.map .int)] h = .ok (.lst (r.map .int)) h := by
  show newList false (r.map V.int) h = _
  unfold newList
  rw [if_pos (by simpa using hr)]; rfl
theorem po_lenInts {r : List Int} : primop .len [.lst (r.map .int)] h = .ok (.int r.length) h := by rw [po_len, List.length_map]
end
theorem append_new {h ext : H} {j : Nat} {vs : List V} {x : V} (hj : ext[j]? = some (.list vs)) (hl : vs.length < 2 ^ 20) : appendop (.ref (h.length + j)) x (h ++ ext) = .ok .none (h ++ ext.set j (.list (vs ++ [x]))) := by
  have hget : (h ++ ext)[h.length + j]? = some (.list vs) := by rw [List.getElem?_append_right (by first | decide | lia)]; simpa using hj
  refine (some1_val hget).trans ((when1_val (decide_eq_true hl)).trans ?_)
  rw [List.set_append_right _ _ (by first | decide | lia)]
  simp
theorem live_new {h ext : H} {j : Nat} {vs : List V} (hj : ext[j]? = some (.list vs)) : isLive (.ref (h.length + j)) (h ++ ext) = true := by
  have hget : (h ++ ext)[h.length + j]? = some (.list vs) := by rw [List.getElem?_append_right (by first | decide | lia)]; simpa using hj
  unfold isLive
  simp only [hget]
end Mine.Internal
set_option linter.unusedSimpArgs false
namespace Mine.Internal
open PySem
noncomputable def IsRow (h : H) (v : V) (r : List Ent) : Prop := asList h v = some (r.map ent)
theorem isRow_lst {h : H} {r : List Ent} : IsRow h (row r) r := (fun _ => rfl : True → _) trivial
theorem isRow_ref {h : H} {i : Nat} {r : List Ent} (e : h[i]? = some (.list (r.map ent))) : IsRow h (.ref i) r := by
  show (match h[i]? with | some (.list vs) => some vs | _ => none) = _
  rw [e]
theorem IsRow.inv {h : H} {v : V} {r : List Ent} (x : IsRow h v r) : v = row r ∨ ∃ i, v = .ref i ∧ h[i]? = some (.list (r.map ent)) := by
  unfold IsRow asList at x
  split at x
  · cases x; exact .inl rfl
  · rename_i i
    split at x
    · rename_i q; cases x; exact .inr ⟨i, rfl, q⟩
    · cases x
  · cases x
theorem IsRow.set {h : H} {v : V} {r : List Ent} {i c : Nat} {fs : List (Nat × V)} {o : O} (x : IsRow h v r) (e : h[i]? = some (.inst c fs)) : IsRow (h.set i o) v r := by
  rcases x.inv with rfl | ⟨j, rfl, q⟩
  · exact isRow_lst
  · refine isRow_ref ?_
    have : i ≠ j := fun z => by rw [z, q] at e; cases e
    rw [List.getElem?_set_ne this]; exact q
theorem IsRow.app {h ext : H} {v : V} {r : List Ent} (x : IsRow h v r) : IsRow (h ++ ext) v r := by
  rcases x.inv with rfl | ⟨j, rfl, q⟩
  · exact isRow_lst
  · refine isRow_ref ?_
    rw [List.getElem?_append_left (List.getElem?_eq_some_iff.mp q).1]; exact q
section
variable {h : H} {v w : V} {r q : List Ent}
theorem IsRow.len (x : IsRow h v r) : primop .len [v] h = .ok (.int r.length) h := by
  rcases x.inv with rfl | ⟨j, rfl, e⟩
  · exact po_lenRow
  · exact (some1_val x).trans (by rw [List.length_map])
theorem IsRow.sub (x : IsRow h v r) {i : Int} {k : Nat} {e : Ent} (hi : idx r.length i = some k) (hk : r[k]? = some e) : subop v (.int i) h = .ok (ent e) h := by
  rcases x.inv with rfl | ⟨j, rfl, q⟩
  · exact sub_lst (by rw [List.length_map]; exact hi) (by rw [List.getElem?_map, hk]; rfl)
  · exact (some1_val x).trans (sub_of (by rw [List.length_map]; exact hi) (by rw [List.getElem?_map, hk]; rfl))
theorem IsRow.next (x : IsRow h v r) (k : Nat) : nextOf v k h = some (r.map ent)[k]? := by
  rcases x.inv with rfl | ⟨j, rfl, q⟩
  · exact next_lst
  · show (match h[j]? with | some (.list vs) => some vs[k]? | _ => none) = _
    rw [q]
theorem IsRow.src (x : IsRow h v r) : srcLen v h = r.length := by
  rcases x.inv with rfl | ⟨j, rfl, q⟩
  · show (r.map ent).length = _; simp
  · show (match h[j]? with | some (.list vs) => vs.length | _ => 0) = _
    rw [q]; simp
theorem IsRow.isL {T : Tab} (x : IsRow h v r) : isiop T v .list h = .ok (.bool true) h := by
  rcases x.inv with rfl | ⟨j, rfl, q⟩
  · rfl
  · show (match h[j]? with | some (.list _) => Res.ok (V.bool true) h | _ => .stuck) = _
    rw [q]
theorem IsRow.toD (x : IsRow h v r) {d : Nat} : toD h (d + 3) v = some (.list (r.map dent)) := by
  rcases x.inv with rfl | ⟨j, rfl, q⟩
  · exact toD_row r
  · show (match h[j]? with | some (.list vs) => (vs.mapM (Mine.Internal.toD h (d + 2))).map PyData.list | _ => none) = _
    rw [q]
    dsimp only
    rw [mapM_ent]; rfl
theorem IsRow.eq (x : IsRow h v r) (y : IsRow h w q) : cmpop .eq v w h = .ok (.bool (decide (r = q))) h := by
  exact (some1_val (x.toD (d := 5))).trans ((some1_val (y.toD (d := 5))).trans (by rw [eqv_row]))
theorem IsRow.ne (x : IsRow h v r) (y : IsRow h w q) : cmpop .ne v w h = .ok (.bool (!decide (r = q))) h := by
  exact (some1_val (x.toD (d := 5))).trans ((some1_val (y.toD (d := 5))).trans (by rw [eqv_row]))
theorem IsRow.list {m : Bool} (x : IsRow h v r) : primop (.list m) [v] h = newList m (r.map ent) h := by
  rcases x.inv with rfl | ⟨j, rfl, e⟩
  · rfl
  · exact some1_val x
end
theorem new_lst {vs : List V} {h : H} (hl : vs.length ≤ 2 ^ 20) : newList false vs h = .ok (.lst vs) h := by
  unfold newList; rw [if_pos hl]; rfl
theorem new_ref {vs : List V} {h : H} (hl : vs.length ≤ 2 ^ 20) : newList true vs h = .ok (.ref h.length) (h ++ [.list vs]) := by
  unfold newList; rw [if_pos hl]; rfl
theorem idx_last {n : Nat} (h : 0 < n) : idx n (-1) = some (n - 1) := by
  unfold idx
  rw [if_pos (by first | decide | lia), if_neg (by first | decide | lia), if_pos (by first | decide | lia)]
  congr 1
  lia
theorem attr_at {T : Tab} {i n c f : Nat} {h : H} {fs : List (Nat × V)} {v : V} (e : h[i]? = some (.inst c fs)) (hi : T.init c = some f) (hv : getF fs n = some v) : attrop T (.ref i) n h = .ok v h := by
  exact (some1_val e).trans ((some1_val hi).trans (some1_val hv))
theorem setattr_at {T : Tab} {i n c f : Nat} {h : H} {fs : List (Nat × V)} {v : V} (e : h[i]? = some (.inst c fs)) (hi : T.init c = some f) (hl : fs.length < 1000) : setattrop T (.ref i) n v h = .ok () (h.set i (.inst c (setF fs n v))) := by
  exact (some1_val e).trans ((some1_val hi).trans (when1_val (decide_eq_true hl)))
theorem meth_at {T : Tab} {i n c f g : Nat} {h : H} {fs : List (Nat × V)} (e : h[i]? = some (.inst c fs)) (hi : T.init c = some f) (hm : T.meth c n = some g) (hv : getF fs n = none) : methOf T (.ref i) n h = some g := by
  unfold methOf
  simp only [e, hi, hm, hv, Option.isNone_none, if_true]
theorem asList_at {h : H} {a : Nat} {vs : List V} (e : h[a]? = some (.list vs)) : asList h (.ref a) = some vs := by
  show (match h[a]? with | some (.list vs) => some vs | _ => none) = _
  rw [e]
theorem sub_z {h : H} {a : Nat} {z : Int} {vs : List V} {v : V} {k : Nat} (e : h[a]? = some (.list vs)) (hi : idx vs.length z = some k) (hv : vs[k]? = some v) : subop (.ref a) (.int z) h = .ok v h := by
  exact (some1_val (asList_at e)).trans (sub_of hi hv)
theorem len_at {h : H} {a : Nat} {vs : List V} (e : h[a]? = some (.list vs)) : primop .len [.ref a] h = .ok (.int vs.length) h := by
  exact some1_val (asList_at e)
theorem setitem_z {h : H} {a : Nat} {z : Int} {vs : List V} {v : V} {k : Nat} (e : h[a]? = some (.list vs)) (hi : idx vs.length z = some k) (h0 : 0 ≤ z) : setitemop (.ref a) (.int z) v h = .ok () (h.set a (.list (vs.set k v))) := by
  exact (some1_val e).trans ((some1_val hi).trans (when1_val (decide_eq_true h0)))
theorem set_self {h : H} {i : Nat} {o : O} (e : h[i]? = some o) : h.set i o = h := by
  obtain ⟨hi, e⟩ := List.getElem?_eq_some_iff.mp e
  rw [← e]; exact List.set_getElem_self hi
theorem get_set {h : H} {i : Nat} {o o' : O} (e : h[i]? = some o) : (h.set i o')[i]? = some o' := by
  rw [List.getElem?_set_self (List.getElem?_eq_some_iff.mp e).1]
theorem ex_setattrE {T : Tab} {l : L} {h h₃ : H} {r : List CS} {o e : CE} {n : Nat} {v x : V} (he : aeval T e l h = .ok v h) (ho : aeval T o l h = .ok x h) (hs : setattrop T x n v h = .ok () h₃) : aexecs T (.setattr o n e :: r) l h = aexecs T r l h₃ := ex_setattr he ho hs
theorem ex_setitemE {T : Tab} {l : L} {h h₄ : H} {r : List CS} {o i e : CE} {v x y : V} (he : aeval T e l h = .ok v h) (ho : aeval T o l h = .ok x h) (hi : aeval T i l h = .ok y h) (hs : setitemop x y v h = .ok () h₄) : aexecs T (.setitem o i e :: r) l h = aexecs T r l h₄ := ex_setitem he ho hi hs
theorem runFn_imp {T : Tab} {fn : Fn} {args : List V} {h h' : H} {fl : Fl} {l' : L} {v : V} (hlen : args.length = fn.params) (hp : fn.pure = false)
    (he : aexecs T fn.body (args.map some ++ List.replicate (fn.slots - fn.params) none) h = .ok (fl, l') h') (ev : flV fl = v) (hv : v.under 0 = true ∨ fn.frz = false) (hx : fl.isExc = false := by rfl) : runFn T fn args h = .ok v h' := by
  unfold runFn
  rw [if_pos hlen, he, endFn_plain (Fl.notExc hx), ev]
  have : freeze fn.frz h.length v h' = (v, h') := by
    rcases hv with hv | hv
    · exact freeze_plain (V.under_mono (Nat.zero_le _) v hv)
    · rw [hv]; unfold freeze; rfl
  rw [this]
  unfold tidy
  rw [hp]; rfl
end Mine.Internal
namespace Mine.Internal
open PySem
section
variable {T : Tab} {l : L} {h h1 h2 h3 h4 : H} {a b c i e o : CE} {x y z v w : V} {m : Bool} {op : Bop} {cp cq : Cop} {as : List CE} {vs : List V} {n j : Nat}
theorem ev_var (q : l[j]? = some (some v)) : aeval T (.var j) l h = .ok v h := by rw [ae_var, q]
theorem ev_int {k : Int} : aeval T (.int k) l h = .ok (.int k) h := ae_int
theorem ev_bool {k : Bool} : aeval T (.bool k) l h = .ok (.bool k) h := ae_boolc
theorem ev_str {k : Str} : aeval T (.str k) l h = .ok (.str k) h := ae_str
theorem ev_none : aeval T .none l h = .ok .none h := ae_none
theorem ev_bin (p : aeval T a l h = .ok x h1) (q : aeval T b l h1 = .ok y h2) (r : binop m op x y h2 = .ok v h3) : aeval T (.bin m op a b) l h = .ok v h3 := by rw [ae_bin, p, bind_val, q, bind_val, r]
theorem ev_cmp (p : aeval T a l h = .ok x h1) (q : aeval T b l h1 = .ok y h2) (r : cmpop cp x y h2 = .ok v h3) : aeval T (.cmp cp a b) l h = .ok v h3 := by rw [ae_cmp, p, bind_val, q, bind_val, r]
theorem ev_sub (p : aeval T a l h = .ok x h1) (q : aeval T b l h1 = .ok y h2) (r : subop x y h2 = .ok v h3) : aeval T (.sub a b) l h = .ok v h3 := by rw [ae_sub, p, bind_val, q, bind_val, r]
theorem ev_slice (p : aeval T a l h = .ok x h1) (q : aeval T b l h1 = .ok y h2) (q' : aeval T c l h2 = .ok z h3) (r : sliceop m x y z h3 = .ok v h4) : aeval T (.slice m a b c) l h = .ok v h4 := by rw [ae_slice, p, bind_val, q, bind_val, q', bind_val, r]
theorem ev_neg {k : Int} (p : aeval T a l h = .ok (.int k) h1) : aeval T (.neg a) l h = .ok (.int (-k)) h1 := by rw [ae_neg, p, bind_val]
theorem ev_notT (p : aeval T a l h = .ok (.bool false) h1) : aeval T (.not a) l h = .ok (.bool true) h1 := by rw [ae_not, p, bind_val, tr_bool, bind_val]; rfl
theorem ev_notF (p : aeval T a l h = .ok (.bool true) h1) : aeval T (.not a) l h = .ok (.bool false) h1 := by rw [ae_not, p, bind_val, tr_bool, bind_val]; rfl
theorem ev_andT (p : aeval T a l h = .ok (.bool true) h1) (q : aeval T b l h1 = .ok v h2) : aeval T (.and a b) l h = .ok v h2 := by rw [ae_and, p, bind_val, tr_bool, bind_val]; exact q
theorem ev_andF (p : aeval T a l h = .ok (.bool false) h1) : aeval T (.and a b) l h = .ok (.bool false) h1 := by rw [ae_and, p, bind_val, tr_bool, bind_val]
theorem ev_orT (p : aeval T a l h = .ok (.bool true) h1) : aeval T (.or a b) l h = .ok (.bool true) h1 := by rw [ae_or, p, bind_val, tr_bool, bind_val]
theorem ev_orF (p : aeval T a l h = .ok (.bool false) h1) (q : aeval T b l h1 = .ok v h2) : aeval T (.or a b) l h = .ok v h2 := by rw [ae_or, p, bind_val, tr_bool, bind_val]; exact q
theorem ev_cmp2T (p : aeval T a l h = .ok x h1) (q : aeval T b l h1 = .ok y h2) (r : cmpop cp x y h2 = .ok (.bool true) h3) (p' : aeval T c l h3 = .ok z h4) (r' : cmpop cq y z h4 = .ok v h4) : aeval T (.cmp2 cp cq a b c) l h = .ok v h4 := by
  rw [ae_cmp2, p, bind_val, q, bind_val, r, bind_val, tr_bool, bind_val]
  dsimp only
  rw [p', bind_val, r']
theorem ev_cmp2F (p : aeval T a l h = .ok x h1) (q : aeval T b l h1 = .ok y h2) (r : cmpop cp x y h2 = .ok (.bool false) h3) : aeval T (.cmp2 cp cq a b c) l h = .ok (.bool false) h3 := by
  rw [ae_cmp2, p, bind_val, q, bind_val, r, bind_val, tr_bool, bind_val]
theorem ev_attr (p : aeval T a l h = .ok x h1) (r : attrop T x n h1 = .ok v h2) : aeval T (.attr a n) l h = .ok v h2 := by rw [ae_attr, p, bind_val, r]
theorem evs_nil : aevals T [] l h = .ok [] h := aes_nil
theorem evs_cons (p : aeval T a l h = .ok x h1) (q : aevals T as l h1 = .ok vs h2) : aevals T (a :: as) l h = .ok (x :: vs) h2 := by rw [aes_cons, p, bind_val, q, bind_val]
theorem ev_call {f : Nat} (p : aevals T as l h = .ok vs h1) (r : T.F f vs h1 = .ok v h2) : aeval T (.call f as) l h = .ok v h2 := by rw [ae_call, p, bind_val, r]
theorem ev_meth {f : Nat} (p : aeval T o l h = .ok x h1) (q : methOf T x n h1 = some f) (q' : aevals T as l h1 = .ok vs h2) (r : T.F f (x :: vs) h2 = .ok v h3) : aeval T (.meth n o as) l h = .ok v h3 := by
  rw [ae_meth, p, bind_val, q]
  dsimp only
  rw [q', bind_val, r]
theorem ev_methE {f d : Nat} (p : aeval T o l h = .ok x h1) (q : methOf T x n h1 = some f) (q' : aevals T as l h1 = .ok vs h2) (r : T.F f (x :: vs) h2 = .exc d h3) : aeval T (.meth n o as) l h = .exc d h3 := by
  rw [ae_meth, p, bind_val, q]
  dsimp only
  rw [q', bind_val, r]
theorem ev_callP {P : PI} {F : Nat → List V → H → Res V} {sub : Nat → Nat → Bool} {f : Nat} (p : aevals (P.tab F sub) as l h = .ok vs h1) (r : F f vs h1 = .ok v h2) : aeval (P.tab F sub) (.call f as) l h = .ok v h2 := ev_call p r
theorem ev_methP {P : PI} {F : Nat → List V → H → Res V} {sub : Nat → Nat → Bool} {f : Nat} (p : aeval (P.tab F sub) o l h = .ok x h1) (q : methOf (P.tab F sub) x n h1 = some f) (q' : aevals (P.tab F sub) as l h1 = .ok vs h2) (r : F f (x :: vs) h2 = .ok v h3) : aeval (P.tab F sub) (.meth n o as) l h = .ok v h3 := ev_meth p q q' r
theorem ev_prim {p : Prim} (q : aevals T as l h = .ok vs h1) (r : primop p vs h1 = .ok v h2) : aeval T (.prim p as) l h = .ok v h2 := by rw [ae_prim, q, bind_val, r]
theorem ev_join {sep : Str} (p : aeval T a l h = .ok x h1) (r : joinop sep x h1 = .ok v h2) : aeval T (.join sep a) l h = .ok v h2 := by rw [ae_join, p, bind_val, r]
theorem ev_isi {t : Ty} (p : aeval T a l h = .ok x h1) (r : isiop T x t h1 = .ok v h2) : aeval T (.isi a t) l h = .ok v h2 := by rw [ae_isi, p, bind_val, r]
theorem ev_list (p : aevals T as l h = .ok vs h1) (r : newList m vs h1 = .ok v h2) : aeval T (.list m as) l h = .ok v h2 := by rw [ae_list, p, bind_val, r]
theorem ev_tup (p : aevals T as l h = .ok vs h1) (r : vs.length ≤ 1000) : aeval T (.tup as) l h = .ok (.tup vs) h1 := by rw [ae_tup, p, bind_val, if_pos (by first | decide | lia)]
theorem ev_append (p : aeval T o l h = .ok x h1) (q : isLive x h1 = true) (p' : aeval T a l h1 = .ok y h2) (r : appendop x y h2 = .ok v h3) : aeval T (.append o a) l h = .ok v h3 := by rw [ae_append, p, bind_val, if_pos q, p', bind_val, r]
end
section
variable {h : H} {x y : Int}
theorem co_eqT (q : x = y) : cmpop .eq (.int x) (.int y) h = .ok (.bool true) h := by rw [co_eq, decide_eq_true q]
theorem co_eqF (q : ¬ x = y) : cmpop .eq (.int x) (.int y) h = .ok (.bool false) h := by rw [co_eq, decide_eq_false q]
theorem co_neT (q : ¬ x = y) : cmpop .ne (.int x) (.int y) h = .ok (.bool true) h := by rw [co_ne, decide_eq_true q]
theorem co_neF (q : x = y) : cmpop .ne (.int x) (.int y) h = .ok (.bool false) h := by rw [co_ne, decide_eq_false fun z => z q]
theorem co_ltT (q : x < y) : cmpop .lt (.int x) (.int y) h = .ok (.bool true) h := by rw [co_lt, decide_eq_true q]
theorem co_ltF (q : ¬ x < y) : cmpop .lt (.int x) (.int y) h = .ok (.bool false) h := by rw [co_lt, decide_eq_false q]
theorem co_leT (q : x ≤ y) : cmpop .le (.int x) (.int y) h = .ok (.bool true) h := by rw [co_le, decide_eq_true q]
theorem co_leF (q : ¬ x ≤ y) : cmpop .le (.int x) (.int y) h = .ok (.bool false) h := by rw [co_le, decide_eq_false q]
theorem co_gtT (q : y < x) : cmpop .gt (.int x) (.int y) h = .ok (.bool true) h := by rw [co_gt, decide_eq_true q]
theorem co_gtF (q : ¬ y < x) : cmpop .gt (.int x) (.int y) h = .ok (.bool false) h := by rw [co_gt, decide_eq_false q]
theorem co_geT (q : y ≤ x) : cmpop .ge (.int x) (.int y) h = .ok (.bool true) h := by rw [co_ge, decide_eq_true q]
theorem co_geF (q : ¬ y ≤ x) : cmpop .ge (.int x) (.int y) h = .ok (.bool false) h := by rw [co_ge, decide_eq_false q]
end
section
variable {T : Tab} {l l' : L} {h h1 h2 : H} {r t d : List CS} {c : CE} {res : Res (Fl × L)} {v w : V}
theorem st_assign {j : Nat} (p : aeval T c l h = .ok v h1) (q : aexecs T r (l.set j (some v)) h1 = res) : aexecs T (.assign j c :: r) l h = res := (ex_assign p).trans q
theorem st_expr (p : aeval T c l h = .ok v h1) (q : aexecs T r l h1 = res) : aexecs T (.expr c :: r) l h = res := (ex_expr p).trans q
theorem st_skip (p : aeval T c l h = .ok (.bool false) h1) (q : aexecs T r l h1 = res) : aexecs T (.ite c t [] :: r) l h = res := (ex_false_nil p).trans q
theorem st_take (p : aeval T c l h = .ok (.bool true) h1) (q : aexecs T t l h1 = .ok (.next, l') h2) (k : aexecs T r l' h2 = res) : aexecs T (.ite c t d :: r) l h = res := (ex_true_next p q).trans k
theorem st_else (p : aeval T c l h = .ok (.bool false) h1) (q : aexecs T d l h1 = .ok (.next, l') h2) (k : aexecs T r l' h2 = res) : aexecs T (.ite c t d :: r) l h = res := (ex_false_next p q).trans k
theorem st_takeR (p : aeval T c l h = .ok (.bool true) h1) (q : aexecs T t l h1 = .ok (.ret v, l') h2) : aexecs T (.ite c t d :: r) l h = .ok (.ret v, l') h2 := ex_true_ret p q
theorem st_takeX {k : Nat} (p : aeval T c l h = .ok (.bool true) h1) (q : aexecs T t l h1 = .ok (.exc k, l') h2) : aexecs T (.ite c t d :: r) l h = .ok (.exc k, l') h2 := by rw [ex_true p, q, then_exc]
theorem st_ret (p : aeval T c l h = .ok v h1) : aexecs T (.ret c :: r) l h = .ok (.ret v, l) h1 := ex_ret p
theorem st_nil : aexecs T [] l h = .ok (.next, l) h := ex_nil
theorem st_raise {k : Nat} : aexecs T (.raise k :: r) l h = .ok (.exc k, l) h := by rw [ex_cons, ax_raise, then_exc]
theorem st_assignX {j k : Nat} (p : aeval T c l h = .exc k h1) : aexecs T (.assign j c :: r) l h = .ok (.exc k, l) h1 := by rw [ex_cons, ax_assign, p]; rfl
theorem st_retX {k : Nat} (p : aeval T c l h = .exc k h1) : aexecs T (.ret c :: r) l h = .ok (.exc k, l) h1 := by rw [ex_cons, ax_ret, p]; rfl
theorem st_exprX {k : Nat} (p : aeval T c l h = .exc k h1) : aexecs T (.expr c :: r) l h = .ok (.exc k, l) h1 := by rw [ex_cons, ax_expr, p]; rfl
end
theorem runFn_exc {T : Tab} {fn : Fn} {args : List V} {h : H} {c : Nat} {l' : L} (hlen : args.length = fn.params) (he : aexecs T fn.body (args.map some ++ List.replicate (fn.slots - fn.params) none) h = .ok (.exc c, l') h) : runFn T fn args h = .exc c h := by
  unfold runFn
  rw [if_pos hlen, he]
  show tidyE fn.pure h c h = _
  unfold tidyE
  split
  · rw [if_pos (by simp)]
  · rfl
theorem bo_addS {m : Bool} {x y : Str} {h : H} (q : x.length + y.length ≤ 2 ^ 20) : binop m .add (.str x) (.str y) h = .ok (.str (x ++ y)) h := when1_val (decide_eq_true q)
theorem clip_pos {n : Nat} {i : Int} (h : 0 ≤ i) : clip n i = min i.toNat n := by
  unfold clip clipAt
  rw [if_neg (Int.not_lt.mpr h)]
  obtain ⟨k, rfl⟩ := Int.eq_ofNat_of_zero_le h
  rw [Int.toNat_natCast]
  by_cases c : k ≤ n
  · rw [Nat.min_eq_left c, Int.min_eq_left (Int.ofNat_le.mpr c), Int.max_eq_right (Int.natCast_nonneg _), Int.toNat_natCast]
  · rw [Nat.min_eq_right (Nat.le_of_not_le c), Int.min_eq_right (Int.ofNat_le.mpr (Nat.le_of_not_le c)), Int.max_eq_right (Int.natCast_nonneg _), Int.toNat_natCast]
theorem take_min {α : Type} {l : List α} {m : Nat} : l.take (min m l.length) = l.take m := by
  by_cases c : m ≤ l.length
  · rw [Nat.min_eq_left c]
  · rw [Nat.min_eq_right (Nat.le_of_not_le c), List.take_of_length_le (Nat.le_refl _), List.take_of_length_le (Nat.le_of_not_le c)]
theorem drop_min {α : Type} {l : List α} {m : Nat} : l.drop (min m l.length) = l.drop m := by
  by_cases c : m ≤ l.length
  · rw [Nat.min_eq_left c]
  · rw [Nat.min_eq_right (Nat.le_of_not_le c), List.drop_eq_nil_of_le (Nat.le_refl _), List.drop_eq_nil_of_le (Nat.le_of_not_le c)]
theorem sl_pre {vs : List V} {i : Int} (h : 0 ≤ i) : sliceL vs none (some i) = vs.take i.toNat := by
  show (vs.drop 0).take (clip vs.length i - 0) = _
  rw [List.drop_zero, Nat.sub_zero, clip_pos h, take_min]
theorem sl_suf {vs : List V} {i : Int} (h : 0 ≤ i) : sliceL vs (some i) none = vs.drop i.toNat := by
  show (vs.drop (clip vs.length i)).take (vs.length - clip vs.length i) = _
  rw [← List.length_drop, List.take_length, clip_pos h, drop_min]
theorem sl_mid {vs : List V} {i j : Int} (h : 0 ≤ i) (h' : 0 ≤ j) : sliceL vs (some i) (some (i + j)) = (vs.drop i.toNat).take j.toNat := by
  show (vs.drop (clip vs.length i)).take (clip vs.length (i + j) - clip vs.length i) = _
  rw [clip_pos h, clip_pos (Int.add_nonneg h h'), drop_min, Int.toNat_add h h']
  by_cases c : i.toNat ≤ vs.length
  · rw [Nat.min_eq_left c, ← take_min (m := j.toNat), List.length_drop]
    congr 1
    by_cases d : i.toNat + j.toNat ≤ vs.length
    · rw [Nat.min_eq_left d, Nat.add_sub_cancel_left, Nat.min_eq_left (Nat.le_sub_of_add_le' d)]
    · rw [Nat.min_eq_right (Nat.le_of_not_le d), Nat.min_eq_right (Nat.sub_le_of_le_add (by rw [Nat.add_comm]; exact Nat.le_of_not_le d))]
  · rw [List.drop_eq_nil_of_le (Nat.le_of_not_le c), List.take_nil, List.take_nil]
theorem sliceL_len {vs : List V} {l u : Option Int} : (sliceL vs l u).length ≤ vs.length := by
  unfold sliceL
  dsimp only
  rw [List.length_take, List.length_drop]
  exact Nat.le_trans (Nat.min_le_right _ _) (Nat.sub_le _ _)
theorem slice_op {h : H} {a lo hi : V} {vs : List V} {l u : Option Int} (ha : asList h a = some vs) (hl : bound lo = some l) (hu : bound hi = some u) (hn : vs.length ≤ 2 ^ 20) : sliceop false a lo hi h = .ok (.lst (sliceL vs l u)) h :=
  (some1_val ha).trans ((some1_val hl).trans ((some1_val hu).trans ((when1_val (decide_eq_true hn)).trans (new_lst (Nat.le_trans sliceL_len hn)))))
end Mine.Internal
namespace Mine.Internal.L03
open Mine.Internal PySem PySem.W PyProof.Rows
noncomputable def f_filled : FnI := ⟨82, ⟨3, 4, [
  .ite (.not (.cmp2 .le .le (.int 0) (.var 1) (.prim .len [(.var 0)]))) [
    .raise 4] [
],
  .for 3 (.prim .range [(.prim .len [(.var 2)])]) [
    .ite (.or (.cmp .eq (.bin false .add (.var 1) (.var 3)) (.prim .len [(.var 0)])) (.cmp .ne (.sub (.sub (.var 0) (.bin false .add (.var 1) (.var 3))) (.int 0)) (.sub (.sub (.var 2) (.var 3)) (.int 0)))) [
      .ret (.bin true .add (.prim (.list false) [(.slice false (.var 0) .none (.bin false .add (.var 1) (.var 3)))]) (.prim (.list false) [(.slice false (.var 2) (.var 3) .none)]))] [
]],
  .ret (.prim (.list true) [(.var 0)])], false, false⟩, ["row", "at", "some", "k"], 0, 0⟩
noncomputable def f__law_cell_at : FnI := ⟨89, ⟨2, 2, [
  .ite (.cmp .lt (.var 1) (.prim .len [(.var 0)])) [
    .ret (.sub (.var 0) (.var 1))] [
],
  .ret (.int 0)], true, true⟩, ["_law_script", "_law_k"], 0, 0⟩
noncomputable def f__law_mixed : FnI := ⟨96, ⟨2, 3, [
  .assign 2 (.bin false .mod (.bin false .mul (.bin false .add (.call 1 [(.var 0), (.var 1)]) (.bin false .mul (.int 7919) (.var 1))) (.int 48271)) (.int 2147483647)),
  .ret (.bin false .mod (.bin false .add (.bin false .add (.bin false .mul (.var 2) (.var 2)) (.bin false .mul (.int 7) (.var 2))) (.var 1)) (.int 2147483629))], true, true⟩, ["_law_script", "_law_k", "_law_number"], 1, 0⟩
noncomputable def f__law_sign_by : FnI := ⟨103, ⟨1, 2, [
  .assign 1 (.str " !\"#$&'()*+,-./0123456789:;<=>?@ABCDEFGHIJKLMNOPQRSTUVWXYZ[\\]^_`"),
  .assign 1 (.bin false .add (.var 1) (.str "abcdefghijklmnopqrstuvwxyz{|}~")),
  .ret (.sub (.var 1) (.bin false .mod (.var 0) (.int 94)))], true, true⟩, ["_law_number", "_law_some"], 0, 0⟩
noncomputable def f__law_word_by : FnI := ⟨108, ⟨1, 2, [
  .assign 1 (.bin false .mod (.var 0) (.int 4)),
  .ite (.cmp .eq (.bin false .mod (.bin false .fdiv (.var 0) (.int 4)) (.int 9)) (.int 1)) [
    .assign 1 (.bin false .add (.int 10) (.bin false .mod (.bin false .fdiv (.var 0) (.int 36)) (.int 120)))] [
],
  .ret (.join "" (.comp false (.call 3 [(.bin false .add (.bin false .fdiv (.var 1) (.int 36)) (.bin false .mul (.int 7) (.var 0)))]) (.prim .range [(.var 1)])))], true, true⟩, ["_law_number", "_law_size"], 1, 0⟩
noncomputable def f__law_entry_by : FnI := ⟨115, ⟨1, 2, [
  .assign 1 (.bin false .add (.int 1) (.bin false .mod (.var 0) (.int 4))),
  .ite (.cmp .eq (.bin false .mod (.bin false .fdiv (.var 0) (.int 4)) (.int 6)) (.int 1)) [
    .assign 1 (.bin false .add (.int 1) (.bin false .pow (.var 0) (.int 3)))] [
],
  .ret (.tup [(.var 1), (.call 4 [(.bin false .fdiv (.var 0) (.int 24))])])], true, true⟩, ["_law_number", "_law_term"], 2, 0⟩
noncomputable def f__law_row_by : FnI := ⟨120, ⟨2, 4, [
  .assign 2 (.call 2 [(.var 0), (.var 1)]),
  .assign 3 (.bin false .mod (.var 2) (.int 6)),
  .ite (.cmp .eq (.bin false .mod (.bin false .fdiv (.var 2) (.int 6)) (.int 4)) (.int 1)) [
    .assign 3 (.bin false .add (.var 3) (.int 60))] [
],
  .ret (.comp false (.call 5 [(.call 2 [(.var 1), (.bin false .add (.bin false .add (.var 2) (.int 2)) (.bin false .mul (.int 3) (.var 0)))])]) (.prim .range [(.var 3)]))], true, true⟩, ["_law_script", "_law_at", "_law_number", "_law_many"], 3, 0⟩
noncomputable def f__law_whole : FnI := ⟨127, ⟨1, 1, [
  .ret (.and (.isi (.var 0) .int) (.not (.isi (.var 0) .bool)))], true, true⟩, ["_law_found"], 0, 0⟩
noncomputable def f__law_rows : FnI := ⟨134, ⟨1, 2, [
  .ite (.not (.isi (.var 0) .list)) [
    .ret (.bool false)] [
],
  .for 1 (.var 0) [
    .ite (.or (.not (.isi (.var 1) .tuple)) (.cmp .ne (.prim .len [(.var 1)]) (.int 2))) [
      .ret (.bool false)] [
],
    .ite (.or (.not (.call 7 [(.sub (.var 1) (.int 0))])) (.not (.isi (.sub (.var 1) (.int 1)) .str))) [
      .ret (.bool false)] [
]],
  .ret (.bool true)], true, true⟩, ["_law_found", "_law_entry"], 1, 0⟩
noncomputable def f__law_same : FnI := ⟨141, ⟨2, 2, [
  .ret (.and (.call 8 [(.var 0)]) (.cmp .eq (.var 0) (.var 1)))], true, true⟩, ["_law_found", "_law_due_here"], 2, 0⟩
noncomputable def f__law_refused_by_any : FnI := ⟨148, ⟨3, 5, [
  .try [
    .expr (.call 14 [(.var 0), (.var 1), (.var 2)])] [.mk [0] (some 3) [
    .assign 4 (.or (.isi (.var 3) (.cls 2)) (.or (.isi (.var 3) (.cls 1)) (.isi (.var 3) (.cls 3)))),
    .ret (.and (.isi (.var 3) .verr) (.not (.var 4)))]],
  .ret (.bool false)], true, true⟩, ["_law_row", "_law_at", "_law_some", "e", "_law_other"], 1, 1⟩
noncomputable def f__law_some_by : FnI := ⟨155, ⟨3, 9, [
  .assign 3 (.call 2 [(.var 0), (.int 1)]),
  .assign 4 (.bin false .mod (.bin false .fdiv (.var 3) (.int 1009)) (.int 6)),
  .ite (.cmp .eq (.bin false .mod (.bin false .fdiv (.var 3) (.int 6054)) (.int 5)) (.int 1)) [
    .assign 4 (.bin false .add (.var 4) (.int 40))] [
],
  .assign 5 (.sub (.list false [(.int 0), (.int 1), (.int 2), (.int 3), (.int 4), (.int 5), (.int 6), (.int 60)]) (.bin false .mod (.bin false .fdiv (.var 3) (.int 30270)) (.int 8))),
  .assign 6 (.list true []),
  .for 7 (.prim .range [(.var 4)]) [
    .assign 8 (.call 5 [(.call 2 [(.var 0), (.bin false .add (.int 4) (.bin false .mul (.int 3) (.var 7)))])]),
    .ite (.and (.cmp .lt (.var 7) (.var 5)) (.and (.cmp .ge (.var 2) (.int 0)) (.cmp .lt (.bin false .add (.var 2) (.var 7)) (.prim .len [(.var 1)])))) [
      .assign 8 (.tup [(.sub (.sub (.var 1) (.bin false .add (.var 2) (.var 7))) (.int 0)), (.sub (.var 8) (.int 1))])] [
],
    .expr (.append (.var 6) (.var 8))],
  .ret (.var 6)], true, true⟩, ["_law_script", "_law_row", "_law_at", "_law_number", "_law_many", "_law_alike", "_law_some", "_law_k", "_law_entry"], 3, 0⟩
noncomputable def f__law_due : FnI := ⟨162, ⟨3, 4, [
  .assign 3 (.int 0),
  .while (.and (.cmp .lt (.var 3) (.prim .len [(.var 2)])) (.and (.cmp .lt (.bin false .add (.var 1) (.var 3)) (.prim .len [(.var 0)])) (.cmp .eq (.sub (.sub (.var 0) (.bin false .add (.var 1) (.var 3))) (.int 0)) (.sub (.sub (.var 2) (.var 3)) (.int 0))))) [
    .assign 3 (.bin false .add (.var 3) (.int 1))],
  .ite (.cmp .eq (.var 3) (.prim .len [(.var 2)])) [
    .ret (.prim (.list false) [(.var 0)])] [
],
  .ret (.bin false .add (.slice false (.var 0) .none (.bin false .add (.var 1) (.var 3))) (.slice false (.var 2) (.var 3) .none))], true, true⟩, ["_law_row", "_law_at", "_law_some", "_law_k"], 0, 0⟩
noncomputable def f_law : FnI := ⟨169, ⟨1, 10, [
  .assign 1 (.call 6 [(.var 0), (.int 0)]),
  .assign 2 (.call 2 [(.var 0), (.int 1)]),
  .assign 3 (.bin false .sub (.bin false .mod (.var 2) (.bin false .add (.prim .len [(.var 1)]) (.int 3))) (.int 1)),
  .ite (.cmp .eq (.bin false .mod (.bin false .fdiv (.var 2) (.int 71)) (.int 7)) (.int 1)) [
    .assign 3 (.bin false .add (.var 3) (.bin false .pow (.int 10) (.int 20)))] [
],
  .assign 4 (.call 11 [(.var 0), (.var 1), (.var 3)]),
  .assign 5 (.list false [(.prim (.list false) [(.var 1)]), (.prim (.list false) [(.var 4)])]),
  .assign 6 (.and (.cmp .le (.int 0) (.var 3)) (.cmp .le (.var 3) (.prim .len [(.var 1)]))),
  .assign 7 .none,
  .try [
    .assign 7 (.call 0 [(.sub (.var 5) (.int 0)), (.var 3), (.sub (.var 5) (.int 1))])] [.mk [4] none [
    .ret (.and (.not (.var 6)) (.and (.call 10 [(.var 1), (.var 3), (.var 4)]) (.cmp .eq (.var 5) (.list false [(.var 1), (.var 4)]))))]],
  .ite (.or (.not (.var 6)) (.not (.call 9 [(.var 7), (.call 12 [(.var 1), (.var 3), (.var 4)])]))) [
    .ret (.bool false)] [
],
  .expr (.append (.var 7) (.tup [(.int 1), (.str "behind")])),
  .assign 8 (.prim (.list false) [(.var 7)]),
  .assign 9 (.call 0 [(.sub (.var 5) (.int 1)), (.int 0), (.sub (.var 5) (.int 0))]),
  .ite (.or (.not (.call 9 [(.var 9), (.call 12 [(.var 4), (.int 0), (.var 1)])])) (.cmp .ne (.var 7) (.var 8))) [
    .ret (.bool false)] [
],
  .ret (.and (.call 9 [(.sub (.var 5) (.int 0)), (.var 1)]) (.call 9 [(.sub (.var 5) (.int 1)), (.var 4)]))], true, true⟩, ["_law_script", "_law_row", "_law_number", "_law_at", "_law_some", "_law_handed", "_law_good", "_law_found", "_law_kept", "_law_other"], 4, 0⟩
noncomputable def f_filled_q : FnI := ⟨82, ⟨3, 4, [
  .ite (.not (.cmp2 .le .le (.int 0) (.var 1) (.prim .len [(.var 0)]))) [
    .raise 5] [
],
  .bad,
  .bad], true, true⟩, ["row", "at", "some", "k"], 0, 1⟩
noncomputable def PI03 : PI := ⟨[f_filled, f__law_cell_at, f__law_mixed, f__law_sign_by, f__law_word_by, f__law_entry_by, f__law_row_by, f__law_whole, f__law_rows, f__law_same, f__law_refused_by_any, f__law_some_by, f__law_due, f_law, f_filled_q], [], [], [⟨24, none, [], some [0], true⟩, ⟨37, none, [], some [1, 0], true⟩, ⟨49, none, [], some [2, 0], true⟩, ⟨61, none, [], some [3, 0], true⟩, ⟨73, none, [], some [4, 0, 5], true⟩, ⟨73, none, [], some [4, 0, 5], false⟩]⟩
end Mine.Internal.L03

namespace Mine.Internal
open PySem PySem.W PyProof.Rows
set_option maxRecDepth 100000 in
set_option maxHeartbeats 8000000 in
theorem chk03 (w : World) : (openEnds treeTable PySem.Challenge.pw_uf060021_03 w 3124).map (fun s => lawAt Mine.Internal.L03.PI03 169 (fragAt s.heap [3, 2, 6, 15, 22, 23, 24, 25, 28, 35, 36, 37, 40, 47, 48, 49, 52, 59, 60, 61, 64, 71, 72, 73, 76, 78, 79, 81, 82, 83, 85, 86, 88, 89, 90, 92, 93, 95, 96, 97, 99, 100, 102, 103, 104, 107, 108, 109, 111, 112, 114, 115, 116, 119, 120, 121, 123, 124, 126, 127, 128, 130, 131, 133, 134, 135, 137, 138, 140, 141, 142, 144, 145, 147, 148, 149, 151, 152, 154, 155, 156, 158, 159, 161, 162, 163, 165, 166, 168, 169])) = some true := by kernel_rfl
theorem LeftO.both {p q : Program} {loose : List Str} {Xt : Shared → Bool} {α : Type} {Yf : Shared → α} {Ya : World → α} {N : Nat} {g0 : Bool} (a : LeftO p q loose Xt (fun _ => ()) (fun _ => ()) N g0) (b : ∀ w, (openEnds treeTable p w N).map Yf = some (Ya w)) : LeftO p q loose Xt Yf Ya N g0 := fun w => by
  obtain ⟨s, e, e'⟩ := Option.map_eq_some_iff.mp (a w)
  have b' := b w
  rw [e] at b' ⊢
  rw [Option.map_some] at b' ⊢
  rw [← Option.some.inj b', (Prod.mk.inj e').1]
end Mine.Internal
set_option linter.unusedSimpArgs false
set_option linter.unusedVariables false
namespace Mine.Internal.L03
open Mine.Internal PySem
variable {sub : Nat → Nat → Bool}
noncomputable def cellAt (ns : List Int) (k : Nat) : Int := (ns[k]?).getD 0
noncomputable def mixed (ns : List Int) (k : Nat) : Int :=
  let n := ((cellAt ns k + 7919 * k) * 48271).fmod 2147483647
  (n * n + 7 * n + k).fmod 2147483629
theorem cell_at (k : Nat) (ns : List Int) (i : Nat) (h : H) (hn : ns.length ≤ 63) : FF PI03 sub (k + 1) 1 [.lst (ns.map .int), .int i] h = .ok (.int (cellAt ns i)) h := by
  rw [FF_at (fi := f__law_cell_at) rfl]
  unfold cellAt
  by_cases hi : i < ns.length
  · rw [List.getElem?_eq_getElem hi]
    exact runFn_pure' (fl := .ret (.int ns[i])) rfl rfl (st_takeR (ev_cmp (ev_var rfl) (ev_prim (evs_cons (ev_var rfl) evs_nil) po_lenInts) (co_ltT (Int.ofNat_lt.mpr hi))) (st_ret (ev_sub (ev_var rfl) (ev_var rfl)
      (sub_lst (k := i) (by rw [List.length_map]; exact idx_nat hi (Nat.le_trans hn (by decide))) (by rw [List.getElem?_map, List.getElem?_eq_getElem hi]; rfl))))) rfl rfl
  · rw [List.getElem?_eq_none (Nat.le_of_not_lt hi)]
    exact runFn_pure' (fl := .ret (.int 0)) rfl rfl (st_skip (ev_cmp (ev_var rfl) (ev_prim (evs_cons (ev_var rfl) evs_nil) po_lenInts) (co_ltF fun z => hi (Int.ofNat_lt.mp z))) (st_ret ev_int)) rfl rfl
theorem mixed_eq (k : Nat) (ns : List Int) (i : Nat) (h : H) (hn : ns.length ≤ 63) : FF PI03 sub (k + 2) 2 [.lst (ns.map .int), .int i] h = .ok (.int (mixed ns i)) h := by
  rw [FF_at (fi := f__law_mixed) rfl]
  have hb := fmod_bounds ((cellAt ns i + 7919 * i) * 48271) (y := 2147483647) (by decide)
  exact runFn_pure' (fl := .ret (.int (mixed ns i))) rfl rfl (st_assign (ev_bin (ev_bin (ev_bin (ev_callP (evs_cons (ev_var rfl) (evs_cons (ev_var rfl) evs_nil)) (cell_at k ns i h hn)) (ev_bin ev_int (ev_var rfl) (bo_mulL (by decide))) bo_add) ev_int (bo_mulR (by decide))) ev_int (bo_mod (by decide)))
    (st_ret (ev_bin (ev_bin (ev_bin (ev_bin (ev_var rfl) (ev_var rfl) (bo_mulL (small_of (Int.lt_of_lt_of_le (by decide) hb.1) (Int.lt_trans hb.2 (by decide))))) (ev_bin ev_int (ev_var rfl) (bo_mulL (by decide))) bo_add) (ev_var rfl) bo_add) ev_int (bo_mod (by decide))))) rfl rfl
noncomputable def alphabet : Str := (" !\"#$&'()*+,-./0123456789:;<=>?@ABCDEFGHIJKLMNOPQRSTUVWXYZ[\\]^_`" : Str) ++ ("abcdefghijklmnopqrstuvwxyz{|}~" : Str)
noncomputable def signOf (n : Int) : Str := ⟨#[(alphabet.cps[(n.fmod 94).toNat]?).getD 0]⟩
theorem alphabet_size : alphabet.cps.size = 94 := by decide +kernel
noncomputable def sizeOfWord (n : Int) : Int := if (n.fdiv 4).fmod 9 = 1 then 10 + (n.fdiv 36).fmod 120 else n.fmod 4
noncomputable def word (n : Int) : Str := Str.join ("" : Str) ((List.range (sizeOfWord n).toNat).map fun (k : Nat) => signOf (n.fdiv 36 + 7 * (k : Int)))
theorem sub_alpha (n : Int) (h : H) : subop (.str alphabet) (.int (n.fmod 94)) h = .ok (.str (signOf n)) h := by
  have hb := fmod_bounds n (y := 94) (by decide)
  have hi : (n.fmod 94).toNat < alphabet.cps.size := by rw [alphabet_size]; lia
  refine (sub_str hb.1 (by rw [alphabet_size]; exact hb.2) (by rw [alphabet_size]; decide) (Array.getElem?_eq_getElem hi)).trans ?_
  unfold signOf
  rw [Array.getElem?_eq_getElem hi]; rfl
theorem add_alpha (h : H) : binop false .add (.str " !\"#$&'()*+,-./0123456789:;<=>?@ABCDEFGHIJKLMNOPQRSTUVWXYZ[\\]^_`") (.str "abcdefghijklmnopqrstuvwxyz{|}~") h = .ok (.str alphabet) h := bo_addS (by decide +kernel)
theorem sign_eq (k : Nat) (n : Int) (h : H) : FF PI03 sub (k + 1) 3 [.int n] h = .ok (.str (signOf n)) h := by
  rw [FF_at (fi := f__law_sign_by) rfl]
  exact runFn_pure' (fl := .ret (.str (signOf n))) rfl rfl (st_assign ev_str (st_assign (ev_bin (ev_var rfl) ev_str (add_alpha h)) (st_ret (ev_sub (ev_var rfl) (ev_bin (ev_var rfl) ev_int (bo_mod (by decide))) (sub_alpha n h))))) rfl rfl
theorem size_bounds (n : Int) : 0 ≤ sizeOfWord n ∧ sizeOfWord n ≤ 129 := by
  unfold sizeOfWord
  have h1 := fmod_bounds (n.fdiv 36) (y := 120) (by decide)
  have h2 := fmod_bounds n (y := 4) (by decide)
  split <;> omega
theorem mapM_str : ∀ (xs : List Str), (xs.map V.str).mapM strOf = some xs
  | [] => rfl
  | x :: xs => by rw [List.map_cons, List.mapM_cons, mapM_str xs]; rfl
theorem sum_ones : ∀ {ss : List Str}, (∀ x ∈ ss, x.length = 1) → (ss.map (·.length)).sum = ss.length
  | [], _ => rfl
  | x :: ss, q => by rw [List.map_cons, List.sum_cons, sum_ones fun y hy => q y (.tail _ hy), q x (.head _), List.length_cons, Nat.add_comm]
theorem join_ones {ss : List Str} {h : H} (q : ∀ x ∈ ss, x.length = 1) (hl : ss.length ≤ 1000) : joinop "" (.lst (ss.map V.str)) h = .ok (.str (Str.join "" ss)) h :=
  (some1_val (x := ss.map V.str) rfl).trans ((some1_val (mapM_str ss)).trans (when1_val (decide_eq_true (by rw [sum_ones q, show (Str.ofString "").length = 0 by decide, Nat.mul_zero]; exact Nat.le_trans hl (by decide)))))
theorem word_eq (k : Nat) (n : Int) (h : H) : FF PI03 sub (k + 2) 4 [.int n] h = .ok (.str (word n)) h := by
  rw [FF_at (fi := f__law_word_by) rfl]
  have hb := size_bounds n
  have hz : (sizeOfWord n).toNat ≤ 1000 := by lia
  have fin : ∀ x, x = sizeOfWord n → aexecs (PI03.tab (FF PI03 sub (k + 1)) sub) [.ret (.join "" (.comp false (.call 3 [(.bin false .add (.bin false .fdiv (.var 1) (.int 36)) (.bin false .mul (.int 7) (.var 0)))]) (.prim .range [(.var 1)])))] [some (.int n), some (.int x)] h = .ok (.ret (.str (word n)), [some (.int n), some (.int x)]) h := fun x e => by
    subst e
    refine st_ret (ev_join ((comp_rng (N := (sizeOfWord n).toNat) (f := fun j => .str (signOf (n.fdiv 36 + 7 * j))) (ev_prim (evs_cons (ev_var rfl) evs_nil) (po_range hb.1 (Int.lt_of_le_of_lt hb.2 (by decide)))) (fun j _ => ?_) (Nat.le_trans hz (by decide))).trans (new_lst (by rw [List.length_map, List.length_range]; exact Nat.le_trans hz (by decide)))) ?_)
    · rw [Int.one_mul, Int.zero_add]
      exact ev_callP (evs_cons (ev_bin (ev_bin (ev_var rfl) ev_int (bo_fdiv (by decide) (by decide))) (ev_bin ev_int (ev_var rfl) (bo_mulL (by decide))) bo_add) evs_nil) (sign_eq k _ h)
    · refine Eq.trans (congrArg (fun vs => joinop "" (.lst vs) h) ?_) (join_ones (ss := (List.range (sizeOfWord n).toNat).map fun (k : Nat) => signOf (n.fdiv 36 + 7 * (k : Int))) (fun x q => ?_) (by rw [List.length_map, List.length_range]; exact hz))
      · rw [List.map_map]; rfl
      · obtain ⟨_, _, rfl⟩ := List.mem_map.mp q; rfl
  refine runFn_pure' (fl := .ret (.str (word n))) rfl rfl (st_assign (ev_bin (ev_var rfl) ev_int (bo_mod (by decide))) ?_) rfl rfl (l' := [some (.int n), some (.int (sizeOfWord n))])
  by_cases hc : (n.fdiv 4).fmod 9 = 1
  · rw [show sizeOfWord n = _ from if_pos hc]
    exact st_take (ev_cmp (ev_bin (ev_bin (ev_var rfl) ev_int (bo_fdiv (by decide) (by decide))) ev_int (bo_mod (by decide))) ev_int (co_eqT hc)) (st_assign (ev_bin ev_int (ev_bin (ev_bin (ev_var rfl) ev_int (bo_fdiv (by decide) (by decide))) ev_int (bo_mod (by decide))) bo_add) st_nil) (fin _ (if_pos hc).symm)
  · rw [show sizeOfWord n = _ from if_neg hc]
    exact st_skip (ev_cmp (ev_bin (ev_bin (ev_var rfl) ev_int (bo_fdiv (by decide) (by decide))) ev_int (bo_mod (by decide))) ev_int (co_eqF hc)) (fin _ (if_neg hc).symm)
theorem whole_eq (k : Nat) (n : Int) (h : H) : FF PI03 sub (k + 1) 7 [.int n] h = .ok (.bool true) h := by
  rw [FF_at (fi := f__law_whole) rfl]
  exact runFn_pure' (fl := .ret (.bool true)) rfl rfl (st_ret (ev_andT (ev_isi (ev_var rfl) rfl) (ev_notT (ev_isi (ev_var rfl) rfl)))) rfl rfl

theorem mixed_bounds (ns : List Int) (k : Nat) : 0 ≤ mixed ns k ∧ mixed ns k < 2147483629 := fmod_bounds _ (by decide)
noncomputable def term (n : Int) : Int := if (n.fdiv 4).fmod 6 = 1 then 1 + n ^ 3 else 1 + n.fmod 4
noncomputable def entry (n : Int) : Ent := (term n, word (n.fdiv 24))
noncomputable def many (n : Int) : Int := if (n.fdiv 6).fmod 4 = 1 then n.fmod 6 + 60 else n.fmod 6
noncomputable def rowOf (ns : List Int) (a : Nat) : List Ent := (List.range (many (mixed ns a)).toNat).map fun k => entry (mixed ns (a + 2 + 3 * k))

theorem entry_eq (k : Nat) (n : Int) (h : H) (h0 : 0 ≤ n) (h1 : n < 2147483629) : FF PI03 sub (k + 3) 5 [.int n] h = .ok (ent (entry n)) h := by
  rw [FF_at (fi := f__law_entry_by) rfl]
  refine runFn_pure' (fl := .ret (ent (entry n))) (l' := [some (.int n), some (.int (term n))]) rfl rfl ?_ rfl rfl
  simp only [f__law_entry_by, List.map_cons, List.map_nil, Nat.reduceSub, List.replicate, List.cons_append, List.nil_append]
  have fin : aexecs (PI03.tab (FF PI03 sub (k + 2)) sub) [.ret (.tup [(.var 1), (.call 4 [(.bin false .fdiv (.var 0) (.int 24))])])] [some (.int n), some (.int (term n))] h = .ok (.ret (ent (entry n)), [some (.int n), some (.int (term n))]) h := by
    rw [ex_ret (v := ent (entry n)) (h' := h)]
    simp only [ae_var, ae_none, ae_boolc, ae_int, ae_str, ae_bin, ae_not, ae_and, ae_or, ae_cmp, ae_sub, ae_call, ae_prim, ae_isi, ae_tup, aes_nil, aes_cons, List.getElem?_cons_zero, List.getElem?_cons_succ, bind_val]
    rw [bo_fdiv (by decide) (by decide), bind_val, bind_val, tab_F, word_eq, bind_val, bind_val, bind_val, if_pos (by simp)]
    rfl
  rw [ex_assign (v := .int (1 + n.fmod 4)) (h' := h)]
  · unfold term at fin ⊢
    by_cases hc : (n.fdiv 4).fmod 6 = 1
    · rw [ex_true_next (h' := h) (h'' := h) (l' := [some (.int n), some (.int (1 + n ^ 3))])]
      · simpa [hc] using fin
      · simp [ae_var, ae_int, ae_bin, ae_cmp, bind_val, bo_fdiv, bo_mod, co_eq, hc]
      · rw [ex_assign (v := .int (1 + n ^ 3)) (h' := h)]
        · rw [ex_nil]; rfl
        · simp only [List.set_cons_succ, List.set_cons_zero, ae_var, ae_none, ae_boolc, ae_int, ae_str, ae_bin, ae_not, ae_and, ae_or, ae_cmp, ae_sub, ae_call, ae_prim, ae_isi, ae_tup, List.getElem?_cons_zero, List.getElem?_cons_succ, bind_val]
          rw [bo_pow (small_of (by first | decide | lia) (by first | decide | lia)) (by decide) (by decide), bind_val, bo_add]
          rfl
    · rw [ex_false_nil (h' := h)]
      · simpa [hc] using fin
      · simp [ae_var, ae_int, ae_bin, ae_cmp, bind_val, bo_fdiv, bo_mod, co_eq, hc]
  · simp [ae_var, ae_int, ae_bin, bind_val, bo_fdiv, bo_mod, bo_add]

theorem many_bounds (n : Int) : 0 ≤ many n ∧ many n ≤ 65 := by
  unfold many
  have h1 := fmod_bounds n (y := 6) (by decide)
  split <;> lia
theorem rowOf_length (ns : List Int) (a : Nat) : (rowOf ns a).length ≤ 65 := by
  unfold rowOf
  have := many_bounds (mixed ns a)
  simp only [List.length_map, List.length_range]; lia

theorem row_eq (k : Nat) (ns : List Int) (a : Nat) (h : H) (hn : ns.length ≤ 63) : FF PI03 sub (k + 4) 6 [.lst (ns.map .int), .int a] h = .ok (row (rowOf ns a)) h := by
  rw [FF_at (fi := f__law_row_by) rfl]
  have hb := many_bounds (mixed ns a)
  refine runFn_pure' (fl := .ret (row (rowOf ns a))) (l' := [some (.lst (ns.map .int)), some (.int a), some (.int (mixed ns a)), some (.int (many (mixed ns a)))]) rfl rfl ?_ rfl (under_row _ _)
  simp only [f__law_row_by, List.map_cons, List.map_nil, Nat.reduceSub, List.replicate, List.cons_append, List.nil_append]
  have fin : aexecs (PI03.tab (FF PI03 sub (k + 3)) sub) [.ret (.comp false (.call 5 [(.call 2 [(.var 1), (.bin false .add (.bin false .add (.var 2) (.int 2)) (.bin false .mul (.int 3) (.var 0)))])]) (.prim .range [(.var 3)]))]
      [some (.lst (ns.map .int)), some (.int a), some (.int (mixed ns a)), some (.int (many (mixed ns a)))] h = .ok (.ret (row (rowOf ns a)), [some (.lst (ns.map .int)), some (.int a), some (.int (mixed ns a)), some (.int (many (mixed ns a)))]) h := by
    rw [ex_ret (v := row (rowOf ns a)) (h' := h)]
    rw [comp_rng (lo := 0) (st := 1) (N := (many (mixed ns a)).toNat) (f := fun j => ent (entry (mixed ns (a + 2 + 3 * j)))) ?_ (fun j hj => ?_) (by first | decide | lia)]
    · unfold newList
      rw [if_pos (by rw [List.length_map, List.length_range]; lia), if_neg (by decide)]
      unfold row rowOf
      rw [List.map_map]; rfl
    · simp only [ae_var, ae_none, ae_boolc, ae_int, ae_str, ae_bin, ae_not, ae_and, ae_or, ae_cmp, ae_sub, ae_call, ae_prim, ae_isi, ae_tup, aes_nil, aes_cons, List.getElem?_cons_zero, List.getElem?_cons_succ, bind_val]
      exact po_range hb.1 (by first | decide | lia)
    · simp only [ae_var, ae_none, ae_boolc, ae_int, ae_str, ae_bin, ae_not, ae_and, ae_or, ae_cmp, ae_sub, ae_call, ae_prim, ae_isi, ae_tup, aes_nil, aes_cons, List.getElem?_cons_zero, List.getElem?_cons_succ, bind_val]
      have e : (a : Int) + 2 + 3 * (0 + 1 * (j : Int)) = ((a + 2 + 3 * j : Nat) : Int) := by lia
      rw [bo_add, bind_val, bo_mulL (by decide), bind_val, bo_add, bind_val, bind_val, bind_val, tab_F, e, mixed_eq (k + 1) ns _ h hn, bind_val, bind_val]
      exact entry_eq k _ h (mixed_bounds ns _).1 (mixed_bounds ns _).2
  rw [ex_assign (v := .int (mixed ns a)) (h' := h)]
  · rw [ex_assign (v := .int ((mixed ns a).fmod 6)) (h' := h)]
    · unfold many at fin ⊢
      by_cases hc : ((mixed ns a).fdiv 6).fmod 4 = 1
      · rw [ex_true_next (h' := h) (h'' := h) (l' := [some (.lst (ns.map .int)), some (.int a), some (.int (mixed ns a)), some (.int ((mixed ns a).fmod 6 + 60))])]
        · simpa [hc] using fin
        · simp [ae_var, ae_int, ae_bin, ae_cmp, bind_val, bo_fdiv, bo_mod, co_eq, hc]
        · rw [ex_assign (v := .int ((mixed ns a).fmod 6 + 60)) (h' := h)]
          · rw [ex_nil]; rfl
          · simp [ae_var, ae_int, ae_bin, bind_val, bo_fdiv, bo_mod, bo_add]
      · rw [ex_false_nil (h' := h)]
        · simpa [hc] using fin
        · simp [ae_var, ae_int, ae_bin, ae_cmp, bind_val, bo_fdiv, bo_mod, co_eq, hc]
    · simp [ae_var, ae_int, ae_bin, bind_val, bo_fdiv, bo_mod, bo_add]
  · simp only [ae_var, ae_none, ae_boolc, ae_int, ae_str, ae_bin, ae_not, ae_and, ae_or, ae_cmp, ae_sub, ae_call, ae_prim, ae_isi, ae_tup, aes_nil, aes_cons, List.getElem?_cons_zero, List.getElem?_cons_succ, bind_val]
    rw [tab_F, mixed_eq (k + 1) ns a h hn]

theorem rows_eq (k : Nat) (v : V) (r : List Ent) (h : H) (x : IsRow h v r) : FF PI03 sub (k + 2) 8 [v] h = .ok (.bool true) h := by
  rw [FF_at (fi := f__law_rows) rfl]
  have key : ∃ l', aexecs (PI03.tab (FF PI03 sub (k + 1)) sub) f__law_rows.fn.body [some v, none] h = .ok (.ret (.bool true), l') h := by
    simp only [f__law_rows, List.map_cons, List.map_nil, Nat.reduceSub, List.replicate, List.cons_append, List.nil_append]
    rw [ex_false_nil (h' := h) (by simp only [ae_var, ae_none, ae_boolc, ae_int, ae_str, ae_bin, ae_neg, ae_not, ae_and, ae_or, ae_cmp, ae_sub, ae_call, ae_prim, ae_isi, ae_tup, aes_nil, aes_cons, List.set_cons_succ, List.set_cons_zero, List.getElem?_cons_zero, List.getElem?_cons_succ, bind_val, tab_F, x.isL, tr_bool, Bool.not_true])]
    rw [ex_for (src := v) (h' := h) (by simp only [ae_var, ae_none, ae_boolc, ae_int, ae_str, ae_bin, ae_neg, ae_not, ae_and, ae_or, ae_cmp, ae_sub, ae_call, ae_prim, ae_isi, ae_tup, aes_nil, aes_cons, List.set_cons_succ, List.set_cons_zero, List.getElem?_cons_zero, List.getElem?_cons_succ, bind_val, tab_F]), x.src]
    refine loopFor_inv (r.map ent) (fun _ l h' => h' = h ∧ ∃ y, l = [some v, y]) (fun z => ∃ l', andThen z (aexecs (PI03.tab (FF PI03 sub (k + 1)) sub) [.ret (.bool true)]) = .ok (.ret (.bool true), l') h)
      (fun j l h' hI => by rw [hI.1]; exact x.next j) ?_ ?_ r.length 0 _ h (by simp) ⟨rfl, none, rfl⟩
    · intro j e l h₁ he ⟨e1, y, e2⟩
      subst e1 e2
      rw [List.getElem?_map] at he
      obtain ⟨en, _, rfl⟩ := Option.map_eq_some_iff.mp he
      refine .inl ⟨[some v, some (ent en)], h₁, .inl ?_, rfl, _, rfl⟩
      simp only [List.set_cons_succ, List.set_cons_zero]
      rw [ex_false_nil (h' := h₁), ex_false_nil (h' := h₁), ex_nil]
      · simp only [ae_var, ae_none, ae_boolc, ae_int, ae_str, ae_bin, ae_neg, ae_not, ae_and, ae_or, ae_cmp, ae_sub, ae_call, ae_prim, ae_isi, ae_tup, aes_nil, aes_cons, List.set_cons_succ, List.set_cons_zero, List.getElem?_cons_zero, List.getElem?_cons_succ, bind_val, tab_F]
        rw [sub_ent0, bind_val, bind_val, whole_eq, bind_val, tr_bool, bind_val, bind_val, tr_bool, bind_val]
        show ((subop (ent en) (V.int 1) h₁).bind _).bind _ = _
        rw [sub_ent1, bind_val]
        rfl
      · simp only [ae_var, ae_none, ae_boolc, ae_int, ae_str, ae_bin, ae_neg, ae_not, ae_and, ae_or, ae_cmp, ae_sub, ae_call, ae_prim, ae_isi, ae_tup, aes_nil, aes_cons, List.set_cons_succ, List.set_cons_zero, List.getElem?_cons_zero, List.getElem?_cons_succ, bind_val, tab_F]
        rfl
    · intro l h₁ ⟨e1, y, e2⟩
      subst e1 e2
      exact ⟨[some v, y], by rw [then_next, ex_ret (v := .bool true) (h' := h₁) ae_boolc]⟩
  obtain ⟨l', key⟩ := key
  exact runFn_pure' rfl rfl key rfl rfl
theorem same_eq (k : Nat) (v w : V) (r q : List Ent) (h : H) (x : IsRow h v r) (y : IsRow h w q) : FF PI03 sub (k + 3) 9 [v, w] h = .ok (.bool (decide (r = q))) h := by
  rw [FF_at (fi := f__law_same) rfl]
  refine runFn_pure' (fl := .ret (.bool (decide (r = q)))) (l' := [some v, some w]) rfl rfl ?_ rfl rfl
  simp only [f__law_same, List.map_cons, List.map_nil, Nat.reduceSub, List.replicate, List.cons_append, List.nil_append]
  refine ex_ret ?_
  simp only [ae_var, ae_none, ae_boolc, ae_int, ae_str, ae_bin, ae_neg, ae_not, ae_and, ae_or, ae_cmp, ae_sub, ae_call, ae_prim, ae_isi, ae_tup, aes_nil, aes_cons, List.set_cons_succ, List.set_cons_zero, List.getElem?_cons_zero, List.getElem?_cons_succ, bind_val, tab_F]
  rw [rows_eq k v r h x, bind_val, tr_bool, bind_val]
  exact x.eq y

noncomputable def fillE (r : List Ent) : Nat → List Ent → List Ent
  | _, [] => r
  | a, e :: es => if (r[a]?).map (·.1) = some e.1 then fillE r (a + 1) es else r.take a ++ e :: es
theorem fillE_len (r : List Ent) : ∀ (a : Nat) (es : List Ent), (fillE r a es).length ≤ r.length + es.length
  | _, [] => by unfold fillE; simp
  | a, e :: es => by
    unfold fillE
    split
    · have := fillE_len r (a + 1) es
      simp only [List.length_cons]; lia
    · rw [List.length_append, List.length_take, List.length_cons]; lia
theorem slice_pre {r : List Ent} (hb : r.length ≤ 1000) {h : H} (a : Nat) : sliceop false (row r) .none (.int a) h = .ok (row (r.take a)) h :=
  (slice_op ((fun _ => rfl : True → _) trivial) ((fun _ => rfl : True → _) trivial) ((fun _ => rfl : True → _) trivial) (by rw [List.length_map]; lia)).trans (by rw [sl_pre (Int.natCast_nonneg a), Int.toNat_natCast, ← List.map_take]; rfl)
theorem slice_suf {r : List Ent} (hb : r.length ≤ 1000) {h : H} (a : Nat) : sliceop false (row r) (.int a) .none h = .ok (row (r.drop a)) h :=
  (slice_op ((fun _ => rfl : True → _) trivial) ((fun _ => rfl : True → _) trivial) ((fun _ => rfl : True → _) trivial) (by rw [List.length_map]; lia)).trans (by rw [sl_suf (Int.natCast_nonneg a), Int.toNat_natCast, ← List.map_drop]; rfl)
theorem add_rows {m : Bool} {r q : List Ent} {h : H} : binop m .add (row r) (row q) h = newList m ((r ++ q).map ent) h := by
  rw [List.map_append]
  have e1 : asList h (row r) = some (r.map ent) := (fun _ => rfl : True → _) trivial
  have e2 : asList h (row q) = some (q.map ent) := (fun _ => rfl : True → _) trivial
  show (some1 (asList h (row r)) fun xs => some1 (asList h (row q)) fun ys => newList m (xs ++ ys) h) = _
  rw [some1_val e1, some1_val e2]
theorem sub_at {r : List Ent} {h : H} {i : Nat} (hi : i < r.length) (hr : r.length ≤ 1000) : subop (row r) (.int i) h = .ok (ent r[i]) h := sub_row (Int.natCast_nonneg i) (by rw [Int.toNat_natCast]; exact List.getElem?_eq_getElem hi) (by first | decide | lia)

section
variable (r es : List Ent) (a : Nat) (hb : r.length ≤ 1000) (hc : es.length ≤ 1000) (ha : a ≤ r.length)
include hb hc ha
theorem filled_eq (k : Nat) (h : H) : FF PI03 sub (k + 1) 0 [row r, .int a, row es] h = .ok (.ref h.length) (h ++ [.list ((fillE r a es).map ent)]) := by
  rw [FF_at (fi := f_filled) rfl]
  have a0 : (0 : Int) ≤ (a : Int) := by lia
  have a1 : (a : Int) ≤ (r.length : Int) := by lia
  have pr : primop .range [.int (es.length : Int)] h = .ok (.rng 0 es.length 1) h := by rw [po_range (by first | decide | lia) (by first | decide | lia), Int.toNat_natCast]
  have lr : ∀ {q : List Ent} {h : H}, primop .len [row q] h = .ok (.int q.length) h := fun {q h} => po_lenRow
  have lp := loopFor_inv (src := .rng 0 es.length 1) (body := fun v l h => aexecs (PI03.tab (FF PI03 sub k) sub) [.ite (.or (.cmp .eq (.bin false .add (.var 1) (.var 3)) (.prim .len [(.var 0)])) (.cmp .ne (.sub (.sub (.var 0) (.bin false .add (.var 1) (.var 3))) (.int 0)) (.sub (.sub (.var 2) (.var 3)) (.int 0)))) [
      .ret (.bin true .add (.prim (.list false) [(.slice false (.var 0) .none (.bin false .add (.var 1) (.var 3)))]) (.prim (.list false) [(.slice false (.var 2) (.var 3) .none)]))] []] (l.set 3 (some v)) h)
    (rngItems 0 es.length 1) (fun j l h' => h' = h ∧ a + j ≤ r.length ∧ fillE r a es = fillE r (a + j) (es.drop j) ∧ ∃ q, l = [some (row r), some (.int a), some (row es), q])
    (fun w => ∃ l', andThen w (aexecs (PI03.tab (FF PI03 sub k) sub) [.ret (.prim (.list true) [(.var 0)])]) = .ok (.ret (.ref h.length), l') (h ++ [.list ((fillE r a es).map ent)])) (fun _ _ _ _ => next_rng) (fun j v l h₁ hv z_ => by
      obtain ⟨e1, e2, e3, q, e4⟩ := z_
      subst e1 e4
      obtain ⟨hj, rfl⟩ := get_rng hv
      rw [show (0 : Int) + 1 * (j : Int) = (j : Int) by lia]
      have hd : es.drop j = es[j] :: es.drop (j + 1) := List.drop_eq_getElem_cons hj
      have se : subop (row es) (.int j) h₁ = .ok (ent es[j]) h₁ := sub_at hj hc
      have done : (r[a + j]?).map (·.1) ≠ some es[j].1 → fillE r a es = r.take (a + j) ++ es.drop j := fun hne => by rw [e3, hd, fillE, if_neg hne]
      have tk : sliceop false (row r) .none (.int ((a : Int) + (j : Int))) h₁ = .ok (row (r.take (a + j))) h₁ := by rw [← Int.natCast_add]; exact slice_pre hb (a + j)
      have l1 : primop (.list false) [row (r.take (a + j))] h₁ = .ok (row (r.take (a + j))) h₁ := po_listRow (by rw [List.length_take]; lia)
      have l2 : primop (.list false) [row (es.drop j)] h₁ = .ok (row (es.drop j)) h₁ := po_listRow (by rw [List.length_drop]; lia)
      have out : aexecs (PI03.tab (FF PI03 sub k) sub) [.ret (.bin true .add (.prim (.list false) [(.slice false (.var 0) .none (.bin false .add (.var 1) (.var 3)))]) (.prim (.list false) [(.slice false (.var 2) (.var 3) .none)]))] [some (row r), some (.int a), some (row es), some (.int j)] h₁ = .ok (.ret (.ref h₁.length), [some (row r), some (.int a), some (row es), some (.int j)]) (h₁ ++ [.list ((r.take (a + j) ++ es.drop j).map ent)]) :=
        st_ret (ev_bin (by (repeat' first | ((with_reducible apply ev_var); exact rfl) | with_reducible first | exact ev_int | exact ev_bool | exact ev_str | exact ev_none | exact evs_nil | exact tk | exact l1 | apply evs_cons | apply ev_attr | apply ev_methP | apply ev_callP | apply ev_bin | apply ev_cmp | apply ev_sub | apply ev_prim | apply ev_isi | apply ev_slice | apply ev_list | apply ev_notF | apply ev_notT | apply ev_orF | apply ev_andT | apply ev_cmp2T | apply ev_neg | exact bo_add | exact bo_sub)) (by (repeat' first | ((with_reducible apply ev_var); exact rfl) | with_reducible first | exact ev_int | exact ev_bool | exact ev_str | exact ev_none | exact evs_nil | exact slice_suf hc j | exact l2 | apply evs_cons | apply ev_attr | apply ev_methP | apply ev_callP | apply ev_bin | apply ev_cmp | apply ev_sub | apply ev_prim | apply ev_isi | apply ev_slice | apply ev_list | apply ev_notF | apply ev_notT | apply ev_orF | apply ev_andT | apply ev_cmp2T | apply ev_neg | exact bo_add | exact bo_sub)) (add_rows.trans (new_ref (by rw [List.length_map, List.length_append, List.length_take, List.length_drop]; lia))))
      by_cases c : a + j = r.length
      · have c1 : (a : Int) + (j : Int) = (r.length : Int) := by lia
        rw [done (by rw [List.getElem?_eq_none (by first | decide | lia)]; simp)]
        exact .inr ⟨_, _, _, st_takeR (ev_orT (by (repeat' first | ((with_reducible apply ev_var); exact rfl) | with_reducible first | exact ev_int | exact ev_bool | exact ev_str | exact ev_none | exact evs_nil | exact lr | exact co_eqT c1 | apply evs_cons | apply ev_attr | apply ev_methP | apply ev_callP | apply ev_bin | apply ev_cmp | apply ev_sub | apply ev_prim | apply ev_isi | apply ev_slice | apply ev_list | apply ev_notF | apply ev_notT | apply ev_orF | apply ev_andT | apply ev_cmp2T | apply ev_neg | exact bo_add | exact bo_sub))) out, _, then_ret⟩
      · have c1 : ¬ (a : Int) + (j : Int) = (r.length : Int) := by lia
        have hlt : a + j < r.length := by lia
        have sr : subop (row r) (.int ((a : Int) + (j : Int))) h₁ = .ok (ent r[a + j]) h₁ := by rw [← Int.natCast_add]; exact sub_at hlt hb
        by_cases d : r[a + j].1 = es[j].1
        · refine .inl ⟨_, h₁, .inl (st_skip (ev_orF (by (repeat' first | ((with_reducible apply ev_var); exact rfl) | with_reducible first | exact ev_int | exact ev_bool | exact ev_str | exact ev_none | exact evs_nil | exact lr | exact co_eqF c1 | apply evs_cons | apply ev_attr | apply ev_methP | apply ev_callP | apply ev_bin | apply ev_cmp | apply ev_sub | apply ev_prim | apply ev_isi | apply ev_slice | apply ev_list | apply ev_notF | apply ev_notT | apply ev_orF | apply ev_andT | apply ev_cmp2T | apply ev_neg | exact bo_add | exact bo_sub)) (by (repeat' first | ((with_reducible apply ev_var); exact rfl) | with_reducible first | exact ev_int | exact ev_bool | exact ev_str | exact ev_none | exact evs_nil | exact sr | exact se | exact sub_ent0 | exact co_neF d | apply evs_cons | apply ev_attr | apply ev_methP | apply ev_callP | apply ev_bin | apply ev_cmp | apply ev_sub | apply ev_prim | apply ev_isi | apply ev_slice | apply ev_list | apply ev_notF | apply ev_notT | apply ev_orF | apply ev_andT | apply ev_cmp2T | apply ev_neg | exact bo_add | exact bo_sub))) st_nil), rfl, by lia, ?_, _, rfl⟩
          rw [e3, hd, fillE, if_pos (by rw [List.getElem?_eq_getElem hlt, ← d]; rfl)]; rfl
        · rw [done (by rw [List.getElem?_eq_getElem hlt]; intro q; exact d (Option.some.inj q))]
          exact .inr ⟨_, _, _, st_takeR (ev_orF (by (repeat' first | ((with_reducible apply ev_var); exact rfl) | with_reducible first | exact ev_int | exact ev_bool | exact ev_str | exact ev_none | exact evs_nil | exact lr | exact co_eqF c1 | apply evs_cons | apply ev_attr | apply ev_methP | apply ev_callP | apply ev_bin | apply ev_cmp | apply ev_sub | apply ev_prim | apply ev_isi | apply ev_slice | apply ev_list | apply ev_notF | apply ev_notT | apply ev_orF | apply ev_andT | apply ev_cmp2T | apply ev_neg | exact bo_add | exact bo_sub)) (by (repeat' first | ((with_reducible apply ev_var); exact rfl) | with_reducible first | exact ev_int | exact ev_bool | exact ev_str | exact ev_none | exact evs_nil | exact sr | exact se | exact sub_ent0 | exact co_neT d | apply evs_cons | apply ev_attr | apply ev_methP | apply ev_callP | apply ev_bin | apply ev_cmp | apply ev_sub | apply ev_prim | apply ev_isi | apply ev_slice | apply ev_list | apply ev_notF | apply ev_notT | apply ev_orF | apply ev_andT | apply ev_cmp2T | apply ev_neg | exact bo_add | exact bo_sub))) out, _, then_ret⟩)
    (fun l h₁ z_ => by
      obtain ⟨e1, e2, e3, q, e4⟩ := z_
      subst e1 e4
      rw [len_rng, List.drop_length, fillE] at e3
      rw [e3, then_next]
      have lx : primop (.list true) [row r] h₁ = .ok (.ref h₁.length) (h₁ ++ [.list (r.map ent)]) := new_ref (by rw [List.length_map]; lia)
      exact ⟨_, st_ret (by (repeat' first | ((with_reducible apply ev_var); exact rfl) | with_reducible first | exact ev_int | exact ev_bool | exact ev_str | exact ev_none | exact evs_nil | exact lx | apply evs_cons | apply ev_attr | apply ev_methP | apply ev_callP | apply ev_bin | apply ev_cmp | apply ev_sub | apply ev_prim | apply ev_isi | apply ev_slice | apply ev_list | apply ev_notF | apply ev_notT | apply ev_orF | apply ev_andT | apply ev_cmp2T | apply ev_neg | exact bo_add | exact bo_sub))⟩)
    es.length 0 [some (row r), some (.int a), some (row es), none] h (by rw [len_rng, Nat.zero_add]) ⟨rfl, by lia, by rw [Nat.add_zero, List.drop_zero], _, rfl⟩
  obtain ⟨l', lp⟩ := lp
  refine runFn_imp (fl := .ret (.ref h.length)) (l' := l') rfl rfl ?_ rfl (.inr rfl)
  simp only [f_filled, List.map_cons, List.map_nil, Nat.reduceSub, List.replicate, List.cons_append, List.nil_append]
  refine st_skip (ev_notF (by (repeat' first | ((with_reducible apply ev_var); exact rfl) | with_reducible first | exact ev_int | exact ev_bool | exact ev_str | exact ev_none | exact evs_nil | exact lr | exact co_leT a0 | exact co_leT a1 | apply evs_cons | apply ev_attr | apply ev_methP | apply ev_callP | apply ev_bin | apply ev_cmp | apply ev_sub | apply ev_prim | apply ev_isi | apply ev_slice | apply ev_list | apply ev_notF | apply ev_notT | apply ev_orF | apply ev_andT | apply ev_cmp2T | apply ev_neg | exact bo_add | exact bo_sub))) ?_
  rw [ex_for (src := .rng 0 es.length 1) (h' := h) (by (repeat' first | ((with_reducible apply ev_var); exact rfl) | with_reducible first | exact ev_int | exact ev_bool | exact ev_str | exact ev_none | exact evs_nil | exact lr | exact pr | apply evs_cons | apply ev_attr | apply ev_methP | apply ev_callP | apply ev_bin | apply ev_cmp | apply ev_sub | apply ev_prim | apply ev_isi | apply ev_slice | apply ev_list | apply ev_notF | apply ev_notT | apply ev_orF | apply ev_andT | apply ev_cmp2T | apply ev_neg | exact bo_add | exact bo_sub))]
  exact lp
theorem due_eq (k : Nat) (h : H) : FF PI03 sub (k + 1) 12 [row r, .int a, row es] h = .ok (row (fillE r a es)) h := by
  rw [FF_at (fi := f__law_due) rfl]
  have lr : ∀ {q : List Ent} {h : H}, primop .len [row q] h = .ok (.int q.length) h := fun {q h} => po_lenRow
  have wl : ∀ (d j : Nat), j + d = es.length → a + j ≤ r.length → fillE r a es = fillE r (a + j) (es.drop j) → ∀ fuel, d < fuel → ∃ j', j' ≤ es.length ∧ a + j' ≤ r.length ∧ fillE r a es = fillE r (a + j') (es.drop j') ∧ (∀ (q : j' < es.length), (r[a + j']?).map (·.1) ≠ some es[j'].1) ∧
      loopWhile (fun l h => atrue (PI03.tab (FF PI03 sub k) sub) (.and (.cmp .lt (.var 3) (.prim .len [(.var 2)])) (.and (.cmp .lt (.bin false .add (.var 1) (.var 3)) (.prim .len [(.var 0)])) (.cmp .eq (.sub (.sub (.var 0) (.bin false .add (.var 1) (.var 3))) (.int 0)) (.sub (.sub (.var 2) (.var 3)) (.int 0))))) l h)
        (fun l h => aexecs (PI03.tab (FF PI03 sub k) sub) [.assign 3 (.bin false .add (.var 3) (.int 1))] l h) fuel [some (row r), some (.int a), some (row es), some (.int j)] h = .ok (.next, [some (row r), some (.int a), some (row es), some (.int j')]) h := by
    intro d
    induction d with
    | zero =>
      intro j hj ha' hf fuel lt
      obtain ⟨fuel, rfl⟩ : ∃ f, fuel = f + 1 := ⟨fuel - 1, by lia⟩
      refine ⟨j, by lia, ha', hf, fun q => by lia, ?_⟩
      unfold loopWhile
      have c1 : ¬ (j : Int) < (es.length : Int) := by lia
      rw [show atrue (PI03.tab (FF PI03 sub k) sub) _ _ h = .ok false h from by unfold atrue; rw [ev_andF (by (repeat' first | ((with_reducible apply ev_var); exact rfl) | with_reducible first | exact ev_int | exact ev_bool | exact ev_str | exact ev_none | exact evs_nil | exact lr | exact co_ltF c1 | apply evs_cons | apply ev_attr | apply ev_methP | apply ev_callP | apply ev_bin | apply ev_cmp | apply ev_sub | apply ev_prim | apply ev_isi | apply ev_slice | apply ev_list | apply ev_notF | apply ev_notT | apply ev_orF | apply ev_andT | apply ev_cmp2T | apply ev_neg | exact bo_add | exact bo_sub)), bind_val, tr_bool]]
    | succ d ih =>
      intro j hj ha' hf fuel lt
      obtain ⟨fuel, rfl⟩ : ∃ f, fuel = f + 1 := ⟨fuel - 1, by lia⟩
      have hlt : j < es.length := by lia
      have c1 : (j : Int) < (es.length : Int) := by lia
      have hd : es.drop j = es[j] :: es.drop (j + 1) := List.drop_eq_getElem_cons hlt
      have se : subop (row es) (.int j) h = .ok (ent es[j]) h := sub_at hlt hc
      by_cases c : a + j < r.length
      · have c2 : (a : Int) + (j : Int) < (r.length : Int) := by lia
        have sr : subop (row r) (.int ((a : Int) + (j : Int))) h = .ok (ent r[a + j]) h := by rw [← Int.natCast_add]; exact sub_at c hb
        by_cases e : r[a + j].1 = es[j].1
        · obtain ⟨j', q1, q2, q3, q4, q5⟩ := ih (j + 1) (by first | decide | lia) (by first | decide | lia) (by rw [hf, hd, fillE, if_pos (by rw [List.getElem?_eq_getElem c, ← e]; rfl)]; rfl) fuel (by first | decide | lia)
          refine ⟨j', q1, q2, q3, q4, ?_⟩
          unfold loopWhile
          rw [show atrue (PI03.tab (FF PI03 sub k) sub) _ _ h = .ok true h from by unfold atrue; rw [ev_andT (by (repeat' first | ((with_reducible apply ev_var); exact rfl) | with_reducible first | exact ev_int | exact ev_bool | exact ev_str | exact ev_none | exact evs_nil | exact lr | exact co_ltT c1 | apply evs_cons | apply ev_attr | apply ev_methP | apply ev_callP | apply ev_bin | apply ev_cmp | apply ev_sub | apply ev_prim | apply ev_isi | apply ev_slice | apply ev_list | apply ev_notF | apply ev_notT | apply ev_orF | apply ev_andT | apply ev_cmp2T | apply ev_neg | exact bo_add | exact bo_sub)) (ev_andT (by (repeat' first | ((with_reducible apply ev_var); exact rfl) | with_reducible first | exact ev_int | exact ev_bool | exact ev_str | exact ev_none | exact evs_nil | exact lr | exact co_ltT c2 | apply evs_cons | apply ev_attr | apply ev_methP | apply ev_callP | apply ev_bin | apply ev_cmp | apply ev_sub | apply ev_prim | apply ev_isi | apply ev_slice | apply ev_list | apply ev_notF | apply ev_notT | apply ev_orF | apply ev_andT | apply ev_cmp2T | apply ev_neg | exact bo_add | exact bo_sub)) (by (repeat' first | ((with_reducible apply ev_var); exact rfl) | with_reducible first | exact ev_int | exact ev_bool | exact ev_str | exact ev_none | exact evs_nil | exact sr | exact se | exact sub_ent0 | exact co_eqT e | apply evs_cons | apply ev_attr | apply ev_methP | apply ev_callP | apply ev_bin | apply ev_cmp | apply ev_sub | apply ev_prim | apply ev_isi | apply ev_slice | apply ev_list | apply ev_notF | apply ev_notT | apply ev_orF | apply ev_andT | apply ev_cmp2T | apply ev_neg | exact bo_add | exact bo_sub))), bind_val, tr_bool]]
          dsimp only
          rw [show aexecs (PI03.tab (FF PI03 sub k) sub) _ [some (row r), some (.int a), some (row es), some (.int j)] h = .ok (.next, [some (row r), some (.int a), some (row es), some (.int ((j : Int) + 1))]) h from st_assign (by (repeat' first | ((with_reducible apply ev_var); exact rfl) | with_reducible first | exact ev_int | exact ev_bool | exact ev_str | exact ev_none | exact evs_nil | exact bo_add | apply evs_cons | apply ev_attr | apply ev_methP | apply ev_callP | apply ev_bin | apply ev_cmp | apply ev_sub | apply ev_prim | apply ev_isi | apply ev_slice | apply ev_list | apply ev_notF | apply ev_notT | apply ev_orF | apply ev_andT | apply ev_cmp2T | apply ev_neg | exact bo_add | exact bo_sub)) st_nil]
          exact q5
        · refine ⟨j, by lia, ha', hf, fun q => by rw [List.getElem?_eq_getElem c]; intro z; exact e (Option.some.inj z), ?_⟩
          unfold loopWhile
          rw [show atrue (PI03.tab (FF PI03 sub k) sub) _ _ h = .ok false h from by unfold atrue; rw [ev_andT (by (repeat' first | ((with_reducible apply ev_var); exact rfl) | with_reducible first | exact ev_int | exact ev_bool | exact ev_str | exact ev_none | exact evs_nil | exact lr | exact co_ltT c1 | apply evs_cons | apply ev_attr | apply ev_methP | apply ev_callP | apply ev_bin | apply ev_cmp | apply ev_sub | apply ev_prim | apply ev_isi | apply ev_slice | apply ev_list | apply ev_notF | apply ev_notT | apply ev_orF | apply ev_andT | apply ev_cmp2T | apply ev_neg | exact bo_add | exact bo_sub)) (ev_andT (by (repeat' first | ((with_reducible apply ev_var); exact rfl) | with_reducible first | exact ev_int | exact ev_bool | exact ev_str | exact ev_none | exact evs_nil | exact lr | exact co_ltT c2 | apply evs_cons | apply ev_attr | apply ev_methP | apply ev_callP | apply ev_bin | apply ev_cmp | apply ev_sub | apply ev_prim | apply ev_isi | apply ev_slice | apply ev_list | apply ev_notF | apply ev_notT | apply ev_orF | apply ev_andT | apply ev_cmp2T | apply ev_neg | exact bo_add | exact bo_sub)) (by (repeat' first | ((with_reducible apply ev_var); exact rfl) | with_reducible first | exact ev_int | exact ev_bool | exact ev_str | exact ev_none | exact evs_nil | exact sr | exact se | exact sub_ent0 | exact co_eqF e | apply evs_cons | apply ev_attr | apply ev_methP | apply ev_callP | apply ev_bin | apply ev_cmp | apply ev_sub | apply ev_prim | apply ev_isi | apply ev_slice | apply ev_list | apply ev_notF | apply ev_notT | apply ev_orF | apply ev_andT | apply ev_cmp2T | apply ev_neg | exact bo_add | exact bo_sub))), bind_val, tr_bool]]
      · have c2 : ¬ (a : Int) + (j : Int) < (r.length : Int) := by lia
        refine ⟨j, by lia, ha', hf, fun q => by rw [List.getElem?_eq_none (by first | decide | lia)]; simp, ?_⟩
        unfold loopWhile
        rw [show atrue (PI03.tab (FF PI03 sub k) sub) _ _ h = .ok false h from by unfold atrue; rw [ev_andT (by (repeat' first | ((with_reducible apply ev_var); exact rfl) | with_reducible first | exact ev_int | exact ev_bool | exact ev_str | exact ev_none | exact evs_nil | exact lr | exact co_ltT c1 | apply evs_cons | apply ev_attr | apply ev_methP | apply ev_callP | apply ev_bin | apply ev_cmp | apply ev_sub | apply ev_prim | apply ev_isi | apply ev_slice | apply ev_list | apply ev_notF | apply ev_notT | apply ev_orF | apply ev_andT | apply ev_cmp2T | apply ev_neg | exact bo_add | exact bo_sub)) (ev_andF (by (repeat' first | ((with_reducible apply ev_var); exact rfl) | with_reducible first | exact ev_int | exact ev_bool | exact ev_str | exact ev_none | exact evs_nil | exact lr | exact co_ltF c2 | apply evs_cons | apply ev_attr | apply ev_methP | apply ev_callP | apply ev_bin | apply ev_cmp | apply ev_sub | apply ev_prim | apply ev_isi | apply ev_slice | apply ev_list | apply ev_notF | apply ev_notT | apply ev_orF | apply ev_andT | apply ev_cmp2T | apply ev_neg | exact bo_add | exact bo_sub))), bind_val, tr_bool]]
  obtain ⟨j, q1, q2, q3, q4, q5⟩ := wl es.length 0 (by first | decide | lia) (by first | decide | lia) (by rw [Nat.add_zero, List.drop_zero]) 4096 (by first | decide | lia)
  refine runFn_pure' (fl := .ret (row (fillE r a es))) (l' := [some (row r), some (.int a), some (row es), some (.int j)]) rfl rfl ?_ rfl (under_row 0 _)
  simp only [f__law_due, List.map_cons, List.map_nil, Nat.reduceSub, List.replicate, List.cons_append, List.nil_append]
  refine st_assign ev_int ?_
  show aexecs _ (.while _ _ :: _) [some (row r), some (.int a), some (row es), some (.int (0 : Nat))] h = _
  rw [ex_cons, ax_while, q5, then_next]
  by_cases c : j = es.length
  · have c1 : (j : Int) = (es.length : Int) := by lia
    rw [q3, c, List.drop_length, fillE]
    rw [c] at c1
    exact st_takeR (by (repeat' first | ((with_reducible apply ev_var); exact rfl) | with_reducible first | exact ev_int | exact ev_bool | exact ev_str | exact ev_none | exact evs_nil | exact lr | exact co_eqT c1 | apply evs_cons | apply ev_attr | apply ev_methP | apply ev_callP | apply ev_bin | apply ev_cmp | apply ev_sub | apply ev_prim | apply ev_isi | apply ev_slice | apply ev_list | apply ev_notF | apply ev_notT | apply ev_orF | apply ev_andT | apply ev_cmp2T | apply ev_neg | exact bo_add | exact bo_sub)) (st_ret (by (repeat' first | ((with_reducible apply ev_var); exact rfl) | with_reducible first | exact ev_int | exact ev_bool | exact ev_str | exact ev_none | exact evs_nil | exact po_listRow (show r.length ≤ 2 ^ 20 by lia) | apply evs_cons | apply ev_attr | apply ev_methP | apply ev_callP | apply ev_bin | apply ev_cmp | apply ev_sub | apply ev_prim | apply ev_isi | apply ev_slice | apply ev_list | apply ev_notF | apply ev_notT | apply ev_orF | apply ev_andT | apply ev_cmp2T | apply ev_neg | exact bo_add | exact bo_sub)))
  · have c1 : ¬ (j : Int) = (es.length : Int) := by lia
    have hlt : j < es.length := by lia
    have hd : es.drop j = es[j] :: es.drop (j + 1) := List.drop_eq_getElem_cons hlt
    have e : fillE r a es = r.take (a + j) ++ es.drop j := by rw [q3, hd, fillE, if_neg (q4 hlt)]
    have tk : sliceop false (row r) .none (.int ((a : Int) + (j : Int))) h = .ok (row (r.take (a + j))) h := by rw [← Int.natCast_add]; exact slice_pre hb (a + j)
    rw [e]
    refine st_skip (by (repeat' first | ((with_reducible apply ev_var); exact rfl) | with_reducible first | exact ev_int | exact ev_bool | exact ev_str | exact ev_none | exact evs_nil | exact lr | exact co_eqF c1 | apply evs_cons | apply ev_attr | apply ev_methP | apply ev_callP | apply ev_bin | apply ev_cmp | apply ev_sub | apply ev_prim | apply ev_isi | apply ev_slice | apply ev_list | apply ev_notF | apply ev_notT | apply ev_orF | apply ev_andT | apply ev_cmp2T | apply ev_neg | exact bo_add | exact bo_sub)) (st_ret (ev_bin (by (repeat' first | ((with_reducible apply ev_var); exact rfl) | with_reducible first | exact ev_int | exact ev_bool | exact ev_str | exact ev_none | exact evs_nil | exact tk | apply evs_cons | apply ev_attr | apply ev_methP | apply ev_callP | apply ev_bin | apply ev_cmp | apply ev_sub | apply ev_prim | apply ev_isi | apply ev_slice | apply ev_list | apply ev_notF | apply ev_notT | apply ev_orF | apply ev_andT | apply ev_cmp2T | apply ev_neg | exact bo_add | exact bo_sub)) (by (repeat' first | ((with_reducible apply ev_var); exact rfl) | with_reducible first | exact ev_int | exact ev_bool | exact ev_str | exact ev_none | exact evs_nil | exact slice_suf hc j | apply evs_cons | apply ev_attr | apply ev_methP | apply ev_callP | apply ev_bin | apply ev_cmp | apply ev_sub | apply ev_prim | apply ev_isi | apply ev_slice | apply ev_list | apply ev_notF | apply ev_notT | apply ev_orF | apply ev_andT | apply ev_cmp2T | apply ev_neg | exact bo_add | exact bo_sub)) (add_rows.trans (new_lst (by rw [List.length_map, List.length_append, List.length_take, List.length_drop]; lia)))))
end
section
variable (r es : List Ent) (z : Int) (hz : ¬ (0 ≤ z ∧ z ≤ r.length))
include hz
theorem out_of (T : Tab) (l : L) (h : H) (e1 : l[1]? = some (some (.int z))) (e0 : l[0]? = some (some (row r))) : aeval T (.not (.cmp2 .le .le (.int 0) (.var 1) (.prim .len [(.var 0)]))) l h = .ok (.bool true) h := by
  by_cases c : 0 ≤ z
  · exact ev_notT (ev_cmp2T ev_int (ev_var e1) (co_leT c) (ev_prim (evs_cons (ev_var e0) evs_nil) po_lenRow) (co_leF (fun y => hz ⟨c, y⟩)))
  · exact ev_notT (ev_cmp2F ev_int (ev_var e1) (co_leF c))
theorem filled_x (k : Nat) (h : H) : FF PI03 sub (k + 1) 0 [row r, .int z, row es] h = .exc 4 h := by
  rw [FF_at (fi := f_filled) rfl]
  refine runFn_exc (l' := [some (row r), some (.int z), some (row es), none]) rfl ?_
  simp only [f_filled, List.map_cons, List.map_nil, Nat.reduceSub, List.replicate, List.cons_append, List.nil_append]
  exact st_takeX (out_of r z hz _ _ _ rfl rfl) st_raise
theorem filled_q (k : Nat) (h : H) : FF PI03 sub (k + 1) 14 [row r, .int z, row es] h = .exc 5 h := by
  rw [FF_at (fi := f_filled_q) rfl]
  refine runFn_exc (l' := [some (row r), some (.int z), some (row es), none]) rfl ?_
  simp only [f_filled_q, List.map_cons, List.map_nil, Nat.reduceSub, List.replicate, List.cons_append, List.nil_append]
  exact st_takeX (out_of r z hz _ _ _ rfl rfl) st_raise
theorem refused_eq (k : Nat) (h : H) : FF PI03 sub (k + 2) 10 [row r, .int z, row es] h = .ok (.bool true) h := by
  rw [FF_at (fi := f__law_refused_by_any) rfl]
  have iC : ∀ d h, isiop (PI03.tab (FF PI03 sub (k + 1)) sub) (.exc 5) (.cls d) h = .ok (.bool ([4, 0, 5].contains d)) h := fun d h => (fun _ => rfl : True → _) trivial
  have iV : ∀ h, isiop (PI03.tab (FF PI03 sub (k + 1)) sub) (.exc 5) .verr h = .ok (.bool true) h := fun h => (fun _ => rfl : True → _) trivial
  refine runFn_pure' (fl := .ret (.bool true)) (l' := [none, none, none, none, none]) rfl rfl ?_ rfl rfl
  simp only [f__law_refused_by_any, List.map_cons, List.map_nil, Nat.reduceSub, List.replicate, List.cons_append, List.nil_append]
  rw [ex_cons, ax_try]
  have e1 : aexecs (PI03.tab (FF PI03 sub (k + 1)) sub) [.expr (.call 14 [(.var 0), (.var 1), (.var 2)])] [some (row r), some (.int z), some (row es), none, none] h = .ok (.exc 5, [some (row r), some (.int z), some (row es), none, none]) h := by
    refine st_exprX ?_
    rw [ae_call, evs_cons (ev_var rfl) (evs_cons (ev_var rfl) (evs_cons (ev_var rfl) evs_nil)), bind_val]
    exact filled_q r es z hz k h
  rw [e1, bind_val]
  dsimp only
  rw [ah_cons (m := [4, 0, 5]) ((fun _ => rfl : True → _) trivial)]
  rw [if_pos (show [0].any [4, 0, 5].contains = true from (fun _ => rfl : True → _) trivial)]
  dsimp only
  have e2 : aexecs (PI03.tab (FF PI03 sub (k + 1)) sub) [.assign 4 (.or (.isi (.var 3) (.cls 2)) (.or (.isi (.var 3) (.cls 1)) (.isi (.var 3) (.cls 3)))), .ret (.and (.isi (.var 3) .verr) (.not (.var 4)))]
      ([some (row r), some (.int z), some (row es), none, none].set 3 (some (.exc 5))) h = .ok (.ret (.bool true), [some (row r), some (.int z), some (row es), some (.exc 5), some (.bool false)]) h := by
    refine st_assign (v := .bool false) (ev_orF (ev_isi (ev_var rfl) (iC 2 h)) (ev_orF (ev_isi (ev_var rfl) (iC 1 h)) (ev_isi (ev_var rfl) (iC 3 h)))) ?_
    exact st_ret (ev_andT (ev_isi (ev_var rfl) (iV h)) (ev_notT (ev_var rfl)))
  rw [e2]
  rfl
end
theorem some_by_eq (k : Nat) (ns : List Int) (r : List Ent) (z : Int) (h : H) (hn : ns.length ≤ 63) (hr : r.length ≤ 100) : ∃ q : List Ent, q.length ≤ 100 ∧ FF PI03 sub (k + 4) 11 [.lst (ns.map .int), row r, .int z] h = .ok (row q) h := by
  rw [FF_at (fi := f__law_some_by) rfl]
  have hn1 := mixed_eq (sub := sub) (k + 1) ns 1 h hn
  generalize mixed ns 1 = n at hn1
  have b1 := fmod_bounds (n.fdiv 1009) (y := 6) (by decide)
  have b2 := fmod_bounds (n.fdiv 30270) (y := 8) (by decide)
  obtain ⟨al, hal⟩ : ∃ al : Int, ∀ h : H, subop (.lst ([0, 1, 2, 3, 4, 5, 6, 60].map V.int)) (.int ((n.fdiv 30270).fmod 8)) h = .ok (.int al) h := by
    have hi : ((n.fdiv 30270).fmod 8).toNat < [(0 : Int), 1, 2, 3, 4, 5, 6, 60].length := by show _ < 8; lia
    exact ⟨_, fun h => sub_lst (k := ((n.fdiv 30270).fmod 8).toNat) (by rw [List.length_map]; exact idx_int b2.1 (by show _ < ((8 : Nat) : Int); lia) (by decide)) (by rw [List.getElem?_map, List.getElem?_eq_getElem hi]; rfl)⟩
  have key : ∀ m : Int, 0 ≤ m → m ≤ 50 → ∃ (q : List Ent) (l' : L), q.length ≤ 100 ∧ aexecs (PI03.tab (FF PI03 sub (k + 3)) sub) [
      .assign 5 (.sub (.list false [(.int 0), (.int 1), (.int 2), (.int 3), (.int 4), (.int 5), (.int 6), (.int 60)]) (.bin false .mod (.bin false .fdiv (.var 3) (.int 30270)) (.int 8))),
      .assign 6 (.list true []),
      .for 7 (.prim .range [(.var 4)]) [
        .assign 8 (.call 5 [(.call 2 [(.var 0), (.bin false .add (.int 4) (.bin false .mul (.int 3) (.var 7)))])]),
        .ite (.and (.cmp .lt (.var 7) (.var 5)) (.and (.cmp .ge (.var 2) (.int 0)) (.cmp .lt (.bin false .add (.var 2) (.var 7)) (.prim .len [(.var 1)])))) [
          .assign 8 (.tup [(.sub (.sub (.var 1) (.bin false .add (.var 2) (.var 7))) (.int 0)), (.sub (.var 8) (.int 1))])] [],
        .expr (.append (.var 6) (.var 8))],
      .ret (.var 6)] [some (.lst (ns.map .int)), some (row r), some (.int z), some (.int n), some (.int m), none, none, none, none] h = .ok (.ret (.ref (h.length + 0)), l') (h ++ [.list (q.map ent)]) := by
    intro m m0 m1
    have lp := loopFor_inv (src := .rng 0 m.toNat 1) (body := fun v l h => aexecs (PI03.tab (FF PI03 sub (k + 3)) sub) [
        .assign 8 (.call 5 [(.call 2 [(.var 0), (.bin false .add (.int 4) (.bin false .mul (.int 3) (.var 7)))])]),
        .ite (.and (.cmp .lt (.var 7) (.var 5)) (.and (.cmp .ge (.var 2) (.int 0)) (.cmp .lt (.bin false .add (.var 2) (.var 7)) (.prim .len [(.var 1)])))) [
          .assign 8 (.tup [(.sub (.sub (.var 1) (.bin false .add (.var 2) (.var 7))) (.int 0)), (.sub (.var 8) (.int 1))])] [],
        .expr (.append (.var 6) (.var 8))] (l.set 7 (some v)) h) (rngItems 0 m.toNat 1)
      (fun j l h' => ∃ (q : List Ent) (e7 e8 : Option V), q.length = j ∧ l = [some (.lst (ns.map .int)), some (row r), some (.int z), some (.int n), some (.int m), some (.int al), some (.ref (h.length + 0)), e7, e8] ∧ h' = h ++ [.list (q.map ent)])
      (fun w => ∃ (q : List Ent) (l' : L), q.length ≤ 100 ∧ andThen w (aexecs (PI03.tab (FF PI03 sub (k + 3)) sub) [.ret (.var 6)]) = .ok (.ret (.ref (h.length + 0)), l') (h ++ [.list (q.map ent)])) (fun _ _ _ _ => next_rng)
      (fun j v l h₁ hv z_ => by
        obtain ⟨q, e7, e8, q1, rfl, rfl⟩ := z_
        obtain ⟨hj, rfl⟩ := get_rng hv
        rw [show (0 : Int) + 1 * (j : Int) = (j : Int) by lia]
        have mx := mixed_eq (sub := sub) (k + 1) ns (4 + 3 * j) (h ++ [.list (q.map ent)]) hn
        rw [show ((4 + 3 * j : Nat) : Int) = (4 : Int) + 3 * (j : Int) by lia] at mx
        have en := entry_eq (sub := sub) k (mixed ns (4 + 3 * j)) (h ++ [.list (q.map ent)]) (mixed_bounds ns _).1 (mixed_bounds ns _).2
        generalize mixed ns (4 + 3 * j) = x at mx en
        generalize entry x = e at en
        have ap : ∀ e' : Ent, aexecs (PI03.tab (FF PI03 sub (k + 3)) sub) [.expr (.append (.var 6) (.var 8))] [some (.lst (ns.map .int)), some (row r), some (.int z), some (.int n), some (.int m), some (.int al), some (.ref (h.length + 0)), some (.int j), some (ent e')] (h ++ [.list (q.map ent)]) =
            .ok (.next, [some (.lst (ns.map .int)), some (row r), some (.int z), some (.int n), some (.int m), some (.int al), some (.ref (h.length + 0)), some (.int j), some (ent e')]) (h ++ [.list ((q ++ [e']).map ent)]) := fun e' => by
          refine st_expr (ev_append (ev_var rfl) (live_new (j := 0) rfl) (ev_var rfl) (append_new (j := 0) rfl (by rw [List.length_map]; lia))) ?_
          rw [List.map_append]; exact st_nil
        refine .inl ?_
        have c0 : aeval (PI03.tab (FF PI03 sub (k + 3)) sub) (.call 5 [(.call 2 [(.var 0), (.bin false .add (.int 4) (.bin false .mul (.int 3) (.var 7)))])]) [some (.lst (ns.map .int)), some (row r), some (.int z), some (.int n), some (.int m), some (.int al), some (.ref (h.length + 0)), some (.int j), e8] (h ++ [.list (q.map ent)]) = .ok (ent e) (h ++ [.list (q.map ent)]) :=
          ev_callP (evs_cons (ev_callP (evs_cons (ev_var rfl) (evs_cons (ev_bin ev_int (ev_bin ev_int (ev_var rfl) (bo_mulL (by decide))) bo_add) evs_nil)) mx) evs_nil) en
        by_cases c : (j : Int) < al ∧ 0 ≤ z ∧ z + (j : Int) < (r.length : Int)
        · have hi : (z + (j : Int)).toNat < r.length := by lia
          have sr : subop (row r) (.int (z + (j : Int))) (h ++ [.list (q.map ent)]) = .ok (ent r[(z + (j : Int)).toNat]) (h ++ [.list (q.map ent)]) := sub_row (by first | decide | lia) (List.getElem?_eq_getElem hi) (by first | decide | lia)
          refine ⟨_, _, .inl (st_assign c0 (st_take (ev_andT (ev_cmp (ev_var rfl) (ev_var rfl) (co_ltT c.1)) (ev_andT (ev_cmp (ev_var rfl) ev_int (co_geT c.2.1)) (ev_cmp (ev_bin (ev_var rfl) (ev_var rfl) bo_add) (ev_prim (evs_cons (ev_var rfl) evs_nil) po_lenRow) (co_ltT c.2.2))))
            (st_assign (ev_tup (evs_cons (ev_sub (ev_sub (ev_var rfl) (ev_bin (ev_var rfl) (ev_var rfl) bo_add) sr) ev_int sub_ent0) (evs_cons (ev_sub (ev_var rfl) ev_int sub_ent1) evs_nil)) (show 2 ≤ 1000 by decide)) st_nil) (ap (r[(z + (j : Int)).toNat].1, e.2)))), q ++ [(r[(z + (j : Int)).toNat].1, e.2)], _, _, by rw [List.length_append, q1]; rfl, rfl, rfl⟩
        · refine ⟨_, _, .inl (st_assign c0 (st_skip ?_ (ap e))), q ++ [e], _, _, by rw [List.length_append, q1]; rfl, rfl, rfl⟩
          by_cases c1 : (j : Int) < al
          · by_cases c2 : 0 ≤ z
            · exact ev_andT (ev_cmp (ev_var rfl) (ev_var rfl) (co_ltT c1)) (ev_andT (ev_cmp (ev_var rfl) ev_int (co_geT c2)) (ev_cmp (ev_bin (ev_var rfl) (ev_var rfl) bo_add) (ev_prim (evs_cons (ev_var rfl) evs_nil) po_lenRow) (co_ltF fun y => c ⟨c1, c2, y⟩)))
            · exact ev_andT (ev_cmp (ev_var rfl) (ev_var rfl) (co_ltT c1)) (ev_andF (ev_cmp (ev_var rfl) ev_int (co_geF c2)))
          · exact ev_andF (ev_cmp (ev_var rfl) (ev_var rfl) (co_ltF c1)))
      (fun l h₁ z_ => by
        obtain ⟨q, e7, e8, q1, rfl, rfl⟩ := z_
        rw [len_rng] at q1
        exact ⟨q, _, by lia, by rw [then_next]; exact st_ret (ev_var rfl)⟩)
      m.toNat 0 [some (.lst (ns.map .int)), some (row r), some (.int z), some (.int n), some (.int m), some (.int al), some (.ref (h.length + 0)), none, none] (h ++ [.list []]) (by rw [len_rng, Nat.zero_add]) ⟨[], none, none, rfl, rfl, rfl⟩
    obtain ⟨q, l', hq, lp⟩ := lp
    refine ⟨q, l', hq, ?_⟩
    refine st_assign (ev_sub (ev_list (evs_cons ev_int (evs_cons ev_int (evs_cons ev_int (evs_cons ev_int (evs_cons ev_int (evs_cons ev_int (evs_cons ev_int (evs_cons ev_int evs_nil)))))))) (new_lst (by decide))) (ev_bin (ev_bin (ev_var rfl) ev_int (bo_fdiv (by decide) (by decide))) ev_int (bo_mod (by decide))) (hal h)) ?_
    refine st_assign (ev_list evs_nil (new_ref (by decide))) ?_
    refine Eq.trans (ex_for (src := .rng 0 m.toNat 1) (h' := (h ++ [O.list []] : H)) ?_) lp
    exact ev_prim (evs_cons (ev_var (j := 4) rfl) evs_nil) (po_range m0 (by first | decide | lia))
  have fin : ∀ m : Int, 0 ≤ m → m ≤ 50 → aexecs (PI03.tab (FF PI03 sub (k + 3)) sub) f__law_some_by.fn.body [some (.lst (ns.map .int)), some (row r), some (.int z), none, none, none, none, none, none] h = aexecs (PI03.tab (FF PI03 sub (k + 3)) sub) [
      .assign 5 (.sub (.list false [(.int 0), (.int 1), (.int 2), (.int 3), (.int 4), (.int 5), (.int 6), (.int 60)]) (.bin false .mod (.bin false .fdiv (.var 3) (.int 30270)) (.int 8))),
      .assign 6 (.list true []),
      .for 7 (.prim .range [(.var 4)]) [
        .assign 8 (.call 5 [(.call 2 [(.var 0), (.bin false .add (.int 4) (.bin false .mul (.int 3) (.var 7)))])]),
        .ite (.and (.cmp .lt (.var 7) (.var 5)) (.and (.cmp .ge (.var 2) (.int 0)) (.cmp .lt (.bin false .add (.var 2) (.var 7)) (.prim .len [(.var 1)])))) [
          .assign 8 (.tup [(.sub (.sub (.var 1) (.bin false .add (.var 2) (.var 7))) (.int 0)), (.sub (.var 8) (.int 1))])] [],
        .expr (.append (.var 6) (.var 8))],
      .ret (.var 6)] [some (.lst (ns.map .int)), some (row r), some (.int z), some (.int n), some (.int m), none, none, none, none] h → ∃ q : List Ent, q.length ≤ 100 ∧ runFn (PI03.tab (FF PI03 sub (k + 3)) sub) f__law_some_by.fn [.lst (ns.map .int), row r, .int z] h = .ok (row q) h := fun m m0 m1 e => by
    obtain ⟨q, l', hq, kk⟩ := key m m0 m1
    exact ⟨q, hq, runFn_frz (j := 0) rfl rfl rfl (e.trans kk) rfl rfl (unders_row _ q)⟩
  by_cases c : (n.fdiv 6054).fmod 5 = 1
  · exact fin ((n.fdiv 1009).fmod 6 + 40) (by first | decide | lia) (by first | decide | lia) (st_assign (ev_callP (evs_cons (ev_var rfl) (evs_cons ev_int evs_nil)) hn1) (st_assign (ev_bin (ev_bin (ev_var rfl) ev_int (bo_fdiv (by decide) (by decide))) ev_int (bo_mod (by decide)))
      (st_take (ev_cmp (ev_bin (ev_bin (ev_var rfl) ev_int (bo_fdiv (by decide) (by decide))) ev_int (bo_mod (by decide))) ev_int (co_eqT c)) (st_assign (ev_bin (ev_var rfl) ev_int bo_add) st_nil) rfl)))
  · exact fin ((n.fdiv 1009).fmod 6) (by first | decide | lia) (by first | decide | lia) (st_assign (ev_callP (evs_cons (ev_var rfl) (evs_cons ev_int evs_nil)) hn1) (st_assign (ev_bin (ev_bin (ev_var rfl) ev_int (bo_fdiv (by decide) (by decide))) ev_int (bo_mod (by decide)))
      (st_skip (ev_cmp (ev_bin (ev_bin (ev_var rfl) ev_int (bo_fdiv (by decide) (by decide))) ev_int (bo_mod (by decide))) ev_int (co_eqF c)) rfl)))

theorem eq_two (r q : List Ent) (h : H) : cmpop .eq (.lst [row r, row q]) (.lst [row r, row q]) h = .ok (.bool true) h := by
  have e : toD h 8 (.lst [row r, row q]) = some (.list [.list (r.map dent), .list (q.map dent)]) := by
    show ([row r, row q].mapM (toD h 7)).map PyData.list = _
    rw [List.mapM_cons, toD_row (d := 4) r, List.mapM_cons, toD_row (d := 4) q]; rfl
  refine (some1_val e).trans ((some1_val e).trans ?_)
  rw [PyData.eqv, PyData.eqvAll, PyData.eqvAll, PyData.eqvAll, eqv_row, eqv_row]
  simp
theorem law_eq (ns : List Int) (hn : ns.length ≤ 63) : FF PI03 sub 6 13 [.lst (ns.map .int)] [] = .ok (.bool true) [] := by
  rw [FF_at (fi := f_law) rfl]
  have hrow := row_eq (sub := sub) 1 ns 0 [] hn
  have hlen := rowOf_length ns 0
  generalize rowOf ns 0 = r at hrow hlen
  have hn1 := mixed_eq (sub := sub) 3 ns 1 [] hn
  have b1 := mixed_bounds ns 1
  generalize mixed ns 1 = n at hn1 b1
  have key : ∀ z : Int, ∃ (l' : L) (ext : H), aexecs (PI03.tab (FF PI03 sub 5) sub) [
  .assign 4 (.call 11 [(.var 0), (.var 1), (.var 3)]),
  .assign 5 (.list false [(.prim (.list false) [(.var 1)]), (.prim (.list false) [(.var 4)])]),
  .assign 6 (.and (.cmp .le (.int 0) (.var 3)) (.cmp .le (.var 3) (.prim .len [(.var 1)]))),
  .assign 7 .none,
  .try [
    .assign 7 (.call 0 [(.sub (.var 5) (.int 0)), (.var 3), (.sub (.var 5) (.int 1))])] [.mk [4] none [
    .ret (.and (.not (.var 6)) (.and (.call 10 [(.var 1), (.var 3), (.var 4)]) (.cmp .eq (.var 5) (.list false [(.var 1), (.var 4)]))))]],
  .ite (.or (.not (.var 6)) (.not (.call 9 [(.var 7), (.call 12 [(.var 1), (.var 3), (.var 4)])]))) [
    .ret (.bool false)] [],
  .expr (.append (.var 7) (.tup [(.int 1), (.str "behind")])),
  .assign 8 (.prim (.list false) [(.var 7)]),
  .assign 9 (.call 0 [(.sub (.var 5) (.int 1)), (.int 0), (.sub (.var 5) (.int 0))]),
  .ite (.or (.not (.call 9 [(.var 9), (.call 12 [(.var 4), (.int 0), (.var 1)])])) (.cmp .ne (.var 7) (.var 8))) [
    .ret (.bool false)] [],
  .ret (.and (.call 9 [(.sub (.var 5) (.int 0)), (.var 1)]) (.call 9 [(.sub (.var 5) (.int 1)), (.var 4)]))] [some (.lst (ns.map .int)), some (row r), some (.int n), some (.int z), none, none, none, none, none, none] [] = .ok (.ret (.bool true), l') ([] ++ ext) := by
    intro z
    obtain ⟨q, hq, hs⟩ := some_by_eq (sub := sub) 1 ns r z [] hn (by first | decide | lia)
    have s0 : ∀ h, subop (.lst [row r, row q]) (.int 0) h = .ok (row r) h := fun h => sub_lst (k := 0) (idx_int (by decide) (show (0 : Int) < ((2 : Nat) : Int) by decide) (show 2 ≤ 2 ^ 20 by decide)) rfl
    have s1 : ∀ h, subop (.lst [row r, row q]) (.int 1) h = .ok (row q) h := fun h => sub_lst (k := 1) (idx_int (by decide) (show (1 : Int) < ((2 : Nat) : Int) by decide) (show 2 ≤ 2 ^ 20 by decide)) rfl
    by_cases hz : 0 ≤ z ∧ z ≤ r.length
    · obtain ⟨a, rfl⟩ : ∃ a : Nat, z = (a : Int) := ⟨z.toNat, by lia⟩
      have f1 := filled_eq (sub := sub) r q a (by first | decide | lia) (by first | decide | lia) (by first | decide | lia) 4 []
      have d1 := due_eq (sub := sub) r q a (by first | decide | lia) (by first | decide | lia) (by first | decide | lia) 4 [.list ((fillE r a q).map ent)]
      have hF := fillE_len r a q
      generalize fillE r a q = F at f1 d1 hF
      have y1 : IsRow [.list (F.map ent)] (.ref 0) F := isRow_ref rfl
      have m1 := same_eq (sub := sub) 2 (.ref 0) (row F) F F [.list (F.map ent)] y1 isRow_lst
      rw [decide_eq_true rfl] at m1
      have ap := append_new (h := []) (ext := [.list (F.map ent)]) (j := 0) (x := ent (1, ("behind" : Str))) rfl (by rw [List.length_map]; lia)
      rw [show (F.map ent ++ [ent (1, ("behind" : Str))]) = (F ++ [(1, ("behind" : Str))]).map ent by rw [List.map_append]; rfl] at ap
      have hG : (F ++ [((1 : Int), ("behind" : Str))]).length ≤ 300 := by rw [List.length_append, List.length_singleton]; lia
      generalize F ++ [((1 : Int), ("behind" : Str))] = G' at ap hG
      have f2 := filled_eq (sub := sub) q r 0 (by first | decide | lia) (by first | decide | lia) (by first | decide | lia) 4 [.list (G'.map ent)]
      have d2 := due_eq (sub := sub) q r 0 (by first | decide | lia) (by first | decide | lia) (by first | decide | lia) 4 [.list (G'.map ent), .list ((fillE q 0 r).map ent)]
      generalize fillE q 0 r = D at f2 d2
      have y2 : IsRow [.list (G'.map ent), .list (D.map ent)] (.ref 1) D := isRow_ref rfl
      have y3 : IsRow [.list (G'.map ent), .list (D.map ent)] (.ref 0) G' := isRow_ref rfl
      have y4 : IsRow [.list (G'.map ent)] (.ref 0) G' := isRow_ref rfl
      have m2 := same_eq (sub := sub) 2 (.ref 1) (row D) D D [.list (G'.map ent), .list (D.map ent)] y2 isRow_lst
      rw [decide_eq_true rfl] at m2
      have m3 := same_eq (sub := sub) 2 (row r) (row r) r r [.list (G'.map ent), .list (D.map ent)] isRow_lst isRow_lst
      rw [decide_eq_true rfl] at m3
      have m4 := same_eq (sub := sub) 2 (row q) (row q) q q [.list (G'.map ent), .list (D.map ent)] isRow_lst isRow_lst
      rw [decide_eq_true rfl] at m4
      have n1 := y3.ne (isRow_lst (r := G'))
      rw [decide_eq_true rfl] at n1
      refine ⟨[some (.lst (ns.map .int)), some (row r), some (.int n), some (.int a), some (row q), some (.lst [row r, row q]), some (.bool true), some (.ref 0), some (row G'), some (.ref 1)], [.list (G'.map ent), .list (D.map ent)], ?_⟩
      refine st_assign (ev_callP (evs_cons (ev_var rfl) (evs_cons (ev_var rfl) (evs_cons (ev_var rfl) evs_nil))) hs) ?_
      refine st_assign (ev_list (evs_cons (ev_prim (evs_cons (ev_var rfl) evs_nil) (po_listRow (by first | decide | lia))) (evs_cons (ev_prim (evs_cons (ev_var rfl) evs_nil) (po_listRow (by first | decide | lia))) evs_nil)) (new_lst (show 2 ≤ 2 ^ 20 by decide))) ?_
      refine st_assign (ev_andT (ev_cmp ev_int (ev_var rfl) (co_leT hz.1)) (ev_cmp (ev_var rfl) (ev_prim (evs_cons (ev_var rfl) evs_nil) po_lenRow) (co_leT hz.2))) ?_
      refine st_assign ev_none ?_
      rw [ex_cons, ax_try]
      rw [st_assign (res := .ok (.next, [some (.lst (ns.map .int)), some (row r), some (.int n), some (.int a), some (row q), some (.lst [row r, row q]), some (.bool true), some (.ref 0), none, none]) [.list (F.map ent)]) (ev_callP (evs_cons (ev_sub (ev_var rfl) ev_int (s0 _)) (evs_cons (ev_var rfl) (evs_cons (ev_sub (ev_var rfl) ev_int (s1 _)) evs_nil))) f1) st_nil, bind_val]
      dsimp only
      rw [then_next]
      refine st_skip (ev_orF (ev_notF (ev_var rfl)) (ev_notF (ev_callP (evs_cons (ev_var rfl) (evs_cons (ev_callP (evs_cons (ev_var rfl) (evs_cons (ev_var rfl) (evs_cons (ev_var rfl) evs_nil))) d1) evs_nil)) m1))) ?_
      refine st_expr (ev_append (ev_var rfl) (live_new (h := []) (ext := [.list (F.map ent)]) (j := 0) rfl) (ev_tup (evs_cons ev_int (evs_cons ev_str evs_nil)) (show 2 ≤ 1000 by decide)) ap) ?_
      refine st_assign (v := row G') (ev_prim (evs_cons (ev_var rfl) evs_nil) (y4.list.trans (new_lst (by rw [List.length_map]; lia)))) ?_
      refine st_assign (ev_callP (evs_cons (ev_sub (ev_var rfl) ev_int (s1 _)) (evs_cons ev_int (evs_cons (ev_sub (ev_var rfl) ev_int (s0 _)) evs_nil))) f2) ?_
      refine st_skip (ev_orF (ev_notF (ev_callP (evs_cons (ev_var rfl) (evs_cons (ev_callP (evs_cons (ev_var rfl) (evs_cons ev_int (evs_cons (ev_var rfl) evs_nil))) d2) evs_nil)) m2)) (ev_cmp (ev_var rfl) (ev_var rfl) n1)) ?_
      exact st_ret (ev_andT (ev_callP (evs_cons (ev_sub (ev_var rfl) ev_int (s0 _)) (evs_cons (ev_var rfl) evs_nil)) m3) (ev_callP (evs_cons (ev_sub (ev_var rfl) ev_int (s1 _)) (evs_cons (ev_var rfl) evs_nil)) m4))
    · have f1 := filled_x (sub := sub) r q z hz 4 []
      have rf := refused_eq (sub := sub) r q z hz 3 []
      refine ⟨[some (.lst (ns.map .int)), some (row r), some (.int n), some (.int z), some (row q), some (.lst [row r, row q]), some (.bool false), some .none, none, none], [], ?_⟩
      refine st_assign (ev_callP (evs_cons (ev_var rfl) (evs_cons (ev_var rfl) (evs_cons (ev_var rfl) evs_nil))) hs) ?_
      refine st_assign (ev_list (evs_cons (ev_prim (evs_cons (ev_var rfl) evs_nil) (po_listRow (by first | decide | lia))) (evs_cons (ev_prim (evs_cons (ev_var rfl) evs_nil) (po_listRow (by first | decide | lia))) evs_nil)) (new_lst (show 2 ≤ 2 ^ 20 by decide))) ?_
      refine st_assign (v := .bool false) (h1 := []) ?_ ?_
      · by_cases c : 0 ≤ z
        · exact ev_andT (ev_cmp ev_int (ev_var rfl) (co_leT c)) (ev_cmp (ev_var rfl) (ev_prim (evs_cons (ev_var rfl) evs_nil) po_lenRow) (co_leF fun y => hz ⟨c, y⟩))
        · exact ev_andF (ev_cmp ev_int (ev_var rfl) (co_leF c))
      refine st_assign ev_none ?_
      rw [ex_cons, ax_try]
      have x1 : aexecs (PI03.tab (FF PI03 sub 5) sub) [.assign 7 (.call 0 [(.sub (.var 5) (.int 0)), (.var 3), (.sub (.var 5) (.int 1))])] [some (.lst (ns.map .int)), some (row r), some (.int n), some (.int z), some (row q), some (.lst [row r, row q]), some (.bool false), some .none, none, none] [] = .ok (.exc 4, [some (.lst (ns.map .int)), some (row r), some (.int n), some (.int z), some (row q), some (.lst [row r, row q]), some (.bool false), some .none, none, none]) [] := by
        refine st_assignX ?_
        rw [ae_call, evs_cons (ev_sub (ev_var rfl) ev_int (s0 _)) (evs_cons (ev_var rfl) (evs_cons (ev_sub (ev_var rfl) ev_int (s1 _)) evs_nil)), bind_val]
        exact f1
      have x2 : aexecs (PI03.tab (FF PI03 sub 5) sub) [.ret (.and (.not (.var 6)) (.and (.call 10 [(.var 1), (.var 3), (.var 4)]) (.cmp .eq (.var 5) (.list false [(.var 1), (.var 4)]))))] [some (.lst (ns.map .int)), some (row r), some (.int n), some (.int z), some (row q), some (.lst [row r, row q]), some (.bool false), some .none, none, none] [] = .ok (.ret (.bool true), [some (.lst (ns.map .int)), some (row r), some (.int n), some (.int z), some (row q), some (.lst [row r, row q]), some (.bool false), some .none, none, none]) [] :=
        st_ret (ev_andT (ev_notT (ev_var rfl)) (ev_andT (ev_callP (evs_cons (ev_var rfl) (evs_cons (ev_var rfl) (evs_cons (ev_var rfl) evs_nil))) rf) (ev_cmp (ev_var rfl) (ev_list (evs_cons (ev_var rfl) (evs_cons (ev_var rfl) evs_nil)) (new_lst (show 2 ≤ 2 ^ 20 by decide))) (eq_two r q []))))
      show andThen ((aexecs _ _ [some (.lst (ns.map .int)), some (row r), some (.int n), some (.int z), some (row q), some (.lst [row r, row q]), some (.bool false), some .none, none, none] []).bind _) _ = _
      rw [x1, bind_val]
      dsimp only
      rw [ah_cons (m := [4, 0, 5]) ((fun _ => rfl : True → _) trivial)]
      rw [if_pos (show [4].any [4, 0, 5].contains = true from (fun _ => rfl : True → _) trivial)]
      dsimp only
      rw [x2]
      rfl
  have b2 := fmod_bounds n (y := (r.length : Int) + 3) (by first | decide | lia)
  have fin : ∀ z : Int, aexecs (PI03.tab (FF PI03 sub 5) sub) f_law.fn.body [some (.lst (ns.map .int)), none, none, none, none, none, none, none, none, none] [] = aexecs (PI03.tab (FF PI03 sub 5) sub) (f_law.fn.body.drop 4) [some (.lst (ns.map .int)), some (row r), some (.int n), some (.int z), none, none, none, none, none, none] [] → runFn (PI03.tab (FF PI03 sub 5) sub) f_law.fn [.lst (ns.map .int)] [] = .ok (.bool true) [] := fun z e => by
    obtain ⟨l', ext, kk⟩ := key z
    exact runFn_pure (ext := ext) rfl rfl (e.trans kk) rfl rfl
  by_cases c : (n.fdiv 71).fmod 7 = 1
  · exact fin _ (st_assign (ev_callP (evs_cons (ev_var rfl) (evs_cons ev_int evs_nil)) hrow) (st_assign (ev_callP (evs_cons (ev_var rfl) (evs_cons ev_int evs_nil)) hn1) (st_assign (ev_bin (ev_bin (ev_var rfl) (ev_bin (ev_prim (evs_cons (ev_var rfl) evs_nil) po_lenRow) ev_int bo_add) (bo_mod (by first | decide | lia))) ev_int bo_sub)
      (st_take (ev_cmp (ev_bin (ev_bin (ev_var rfl) ev_int (bo_fdiv (by decide) (by decide))) ev_int (bo_mod (by decide))) ev_int (co_eqT c)) (st_assign (ev_bin (ev_var rfl) (ev_bin ev_int ev_int (bo_pow (by decide) (by decide) (by decide))) bo_add) st_nil) rfl))))
  · exact fin _ (st_assign (ev_callP (evs_cons (ev_var rfl) (evs_cons ev_int evs_nil)) hrow) (st_assign (ev_callP (evs_cons (ev_var rfl) (evs_cons ev_int evs_nil)) hn1) (st_assign (ev_bin (ev_bin (ev_var rfl) (ev_bin (ev_prim (evs_cons (ev_var rfl) evs_nil) po_lenRow) ev_int bo_add) (bo_mod (by first | decide | lia))) ev_int bo_sub)
      (st_skip (ev_cmp (ev_bin (ev_bin (ev_var rfl) ev_int (bo_fdiv (by decide) (by decide))) ev_int (bo_mod (by decide))) ev_int (co_eqF c)) rfl))))
end Mine.Internal.L03


open PySem PySem.W PyProof.Rows
set_option autoImplicit true
set_option maxRecDepth 100000 in
set_option maxHeartbeats 8000000 in
theorem PySem.Challenge.cw_uf060021_03_holds : PySem.Challenge.rw_uf060021_03.Holds := by
  w_on
  refine holds_law (by decide +kernel) fun said => ?_
  refine holds_open (q := Mine.Internal.view) (loose := []) (Xt := fun s => xlAt Mine.Internal.view [] s && recOk (RowW.records PySem.Challenge.rw_uf060021_03.row.toRowW) s) (XP := XL Mine.Internal.view []) (Yf := Hook.obs (Mine.Internal.hook Mine.Internal.L03.PI03 169 [3, 2, 6, 15, 22, 23, 24, 25, 28, 35, 36, 37, 40, 47, 48, 49, 52, 59, 60, 61, 64, 71, 72, 73, 76, 78, 79, 81, 82, 83, 85, 86, 88, 89, 90, 92, 93, 95, 96, 97, 99, 100, 102, 103, 104, 107, 108, 109, 111, 112, 114, 115, 116, 119, 120, 121, 123, 124, 126, 127, 128, 130, 131, 133, 134, 135, 137, 138, 140, 141, 142, 144, 145, 147, 148, 149, 151, 152, 154, 155, 156, 158, 159, 161, 162, 163, 165, 166, 168, 169])) (Ya := Hook.val (Mine.Internal.hook Mine.Internal.L03.PI03 169 [3, 2, 6, 15, 22, 23, 24, 25, 28, 35, 36, 37, 40, 47, 48, 49, 52, 59, 60, 61, 64, 71, 72, 73, 76, 78, 79, 81, 82, 83, 85, 86, 88, 89, 90, 92, 93, 95, 96, 97, 99, 100, 102, 103, 104, 107, 108, 109, 111, 112, 114, 115, 116, 119, 120, 121, 123, 124, 126, 127, 128, 130, 131, 133, 134, 135, 137, 138, 140, 141, 142, 144, 145, 147, 148, 149, 151, 152, 154, 155, 156, 158, 159, 161, 162, 163, 165, 166, 168, 169])) (YP := Hook.says (Mine.Internal.hook Mine.Internal.L03.PI03 169 [3, 2, 6, 15, 22, 23, 24, 25, 28, 35, 36, 37, 40, 47, 48, 49, 52, 59, 60, 61, 64, 71, 72, 73, 76, 78, 79, 81, 82, 83, 85, 86, 88, 89, 90, 92, 93, 95, 96, 97, 99, 100, 102, 103, 104, 107, 108, 109, 111, 112, 114, 115, 116, 119, 120, 121, 123, 124, 126, 127, 128, 130, 131, 133, 134, 135, 137, 138, 140, 141, 142, 144, 145, 147, 148, 149, 151, 152, 154, 155, 156, 158, 159, 161, 162, 163, 165, 166, 168, 169])) (N := 3124) (Mine.Internal.LeftO.both Mine.Internal.left03 Mine.Internal.chk03) (Hook.of _) (Hook.keeps _) (fun s e => xl_of s (Bool.and_eq_true_iff.mp e).1) XL.keeps (by rfl) (by rfl) (by rfl) (fun s e => recFacts_of (Bool.and_eq_true_iff.mp e).2) (by rfl) (by first | assumption | decide +kernel) (by decide +kernel) ⟨rfl, rfl, rfl, rfl, rfl, by decide +kernel⟩ ?hw ?hc
  case hw => w_witness2
  intro w s₀ s₁ mg mb G Y fa o pm cd doc dV kV ho hd hcd hD hmg hg args vals as hpre hlay hrd hwl hlo
  obtain ⟨K, KX, hok⟩ := Y
  unfold Mine.Internal.lawAt at hok
  obtain ⟨hok, hlaw⟩ := Bool.and_eq_true_iff.mp hok
  refine Ground.open G ?_
  intro T B D TE TW
  have e87 : mg (Str.ofString "law") = some (Value.ref 169) := mg_of KX (Top.g T) (beq_iff_eq.mp hlaw)
  have hfa : fa = 169 := by
    have h1 : mg (Str.ofString "law") = some (Value.ref fa) := hmg
    rw [h1] at e87
    exact Value.ref.inj (Option.some.inj e87)
  subst hfa
  clear hd hcd hD hmg ho
  wrow_args hpre hlay hrd hwl hlo
  all_goals (
    refine enter_call ?_
    rename_i ns _ _ _ _ _ _ _ _ vs _ hL _ _ _ hI _ hlen _
    refine Mine.Internal.law_call (sub := fun a b => a == b) (k := 6) (f := 13) (fi := Mine.Internal.L03.f_law) (P := Mine.Internal.L03.PI03) (fun _ _ e => beq_iff_eq.mp e) hok KX (Top.g T) (Top.b T) (Top.builtins T) (Top.nolimit T) rfl (by decide) hL hI (by omega) (Mine.Internal.L03.law_eq ns (by omega)) ?_
    intro s' st gs os
    refine GoodW.toG ⟨.inl ⟨_, .bool true, [], rfl, raisesW_false ?_, .bool true, ?_, unshared_nil⟩, st, os, gs.trans hg⟩
    · wrow_none_raised
    · wrow_post)
