import PyProof.Rows.All
import PyProof.P3Statements
import Open.Row
import Wide.All
import OpenK.KMore
import Wide.FinOn
import PySem.Challenge.RW_uf040027_02
set_option Elab.async false
set_option linter.all false
namespace Lw
open PySem
set_option genSizeOf false

inductive V where
  | none
  | bool (b : Bool)
  | int (i : Int)
  | str (s : Str)
  | tup (vs : List V)
  | lst (vs : List V)
  | rng (a b c : Int)
  | ref (i : Nat)
  | exc (c : String)
  deriving Inhabited

noncomputable def V.isNone : V → Bool
  | .none => true
  | _ => false

inductive O where
  | list (lk : Bool) (vs : List V)
  | di (lk : Bool) (es : List (Int × V))
  | ds (lk : Bool) (es : List (Str × V))
  | inst (c : String) (fs : List (String × V))

structure St where
  n : Nat
  f : Nat → Option O
noncomputable def St.get (σ : St) (i : Nat) : Option O := σ.f i
noncomputable def St.set (σ : St) (i : Nat) (o : O) : St := ⟨σ.n, fun j => if j = i then some o else σ.f j⟩
noncomputable def St.new (σ : St) (o : O) : St := ⟨σ.n + 1, fun j => if j = σ.n then some o else σ.f j⟩
noncomputable def St.empty : St := ⟨0, fun _ => none⟩

inductive Res (α : Type) where
  | ok (a : α)
  | exc (c : String)

abbrev RV := Option (Res V × St)
noncomputable def bindM {α β : Type} (m : Option (Res α × St)) (k : α → St → Option (Res β × St)) : Option (Res β × St) :=
  match m with
  | none => none
  | some (.exc c, σ) => some (.exc c, σ)
  | some (.ok a, σ) => k a σ

inductive Ty where
  | int | bool | str | tuple | list | valueError
  | own (c : String)
inductive BOp where | add | sub | mul | fdiv | mod | pow
inductive COp where | lt | le | gt | ge | eq | ne | isin | notin
inductive Bf where | len | sorted (mt : Bool) | range | min | max | abs | int | list | tuple
inductive Bm where | append | clear | pop | get | startswith | join

set_option genInjectivity false in
inductive E where
  | cNone | cBool (b : Bool) | cInt (i : Int) | cStr (s : Str)
  | var (k : Nat)
  | bin (op : BOp) (a b : E)
  | cmp (op : COp) (a b : E)
  | bool (isAnd : Bool) (es : List E)
  | not (a : E) | neg (a : E)
  | fcall (f : String) (args : List E)
  | new (c : String) (args : List E) (kwn : List String) (kwe : List E)
  | mcall (o : E) (m : String) (args : List E) (kwn : List String) (kwe : List E)
  | bcall (f : Bf) (args : List E)
  | bmeth (m : Bm) (o : E) (args : List E)
  | isinst (a : E) (t : Ty)
  | attr (o : E) (a : String)
  | idx (o i : E)
  | slice (mt : Bool) (o lo hi : E)
  | list (mt : Bool) (es : List E)
  | tup (es : List E)
  | dict (ks : List Str) (vs : List E)
  | comp (mt : Bool) (elt : E) (k : Nat) (it cond : E)

set_option genInjectivity false in
inductive S where
  | expr (e : E)
  | assign (k : Nat) (e : E)
  | setattr (o : E) (a : String) (e : E)
  | setidx (o i e : E)
  | ite (c : E) (t f : List S)
  | for1 (k : Nat) (it : E) (b : List S)
  | ret (e : E)

structure Fn where
  params : List String
  defaults : List V
  body : List S

structure Prog where
  fns : String → String → Option Fn
  sub : String → String → Bool

abbrev Rho := Nat → Option V
noncomputable def upd (ρ : Rho) (k : Nat) (v : V) : Rho := fun j => if j = k then some v else ρ j

noncomputable def lim : Nat := 1000000

section
variable {κ ν : Type} [DecidableEq κ]
noncomputable def lk (kvs : List (κ × ν)) (k : κ) : Option ν := (kvs.find? fun kv => kv.1 = k).map (·.2)
noncomputable def st (kvs : List (κ × ν)) (k : κ) (v : ν) : List (κ × ν) :=
  if kvs.any (fun kv => kv.1 = k) then kvs.map (fun kv => if kv.1 = k then (kv.1, v) else kv) else kvs ++ [(k, v)]
noncomputable def rm (kvs : List (κ × ν)) (k : κ) : List (κ × ν) := kvs.filter fun kv => decide (kv.1 ≠ k)
end

noncomputable def mapO {α β : Type} (f : α → Option β) : List α → Option (List β)
  | [] => some []
  | a :: r => match f a, mapO f r with
    | some b, some bs => some (b :: bs)
    | _, _ => none

noncomputable def dataOf (σ : St) : Nat → V → Option PyData
  | _, .none => some .none
  | _, .bool b => some (.bool b)
  | _, .int i => some (.int i)
  | _, .str s => some (.str s)
  | n + 1, .tup vs => (mapO (dataOf σ n) vs).map .tuple
  | n + 1, .lst vs => (mapO (dataOf σ n) vs).map .list
  | n + 1, .ref i => match σ.get i with
    | some (.list _ vs) => (mapO (dataOf σ n) vs).map .list
    | _ => none
  | _, _ => none

noncomputable def eqV (σ : St) (a b : V) : Option Bool :=
  match dataOf σ 6 a, dataOf σ 6 b with
  | some x, some y => some (PyData.eqv x y)
  | _, _ => none

noncomputable def inV (σ : St) (a b : V) : Option Bool :=
  match b with
  | .ref i => match σ.get i with
    | some (.di _ es) => match a with | .int k => some (lk es k).isSome | _ => none
    | some (.ds _ es) => match a with | .str k => some (lk es k).isSome | _ => none
    | some (.list _ vs) => match mapO (dataOf σ 5) vs, dataOf σ 6 a with
      | some xs, some d => some (xs.any fun y => PyData.eqv y d)
      | _, _ => none
    | _ => none
  | .lst vs => match mapO (dataOf σ 5) vs, dataOf σ 6 a with
      | some xs, some d => some (xs.any fun y => PyData.eqv y d)
      | _, _ => none
  | _ => none

noncomputable def cmpI (a b : V) (k : Int → Int → Bool) : Option Bool := match a with
  | .int i => (match b with | .int j => some (k i j) | _ => none)
  | _ => none
noncomputable def cmpV (σ : St) (op : COp) (a b : V) : Option Bool := match op with
  | .lt => cmpI a b fun a b => decide (a < b)
  | .le => cmpI a b fun a b => decide (a ≤ b)
  | .gt => cmpI a b fun a b => decide (b < a)
  | .ge => cmpI a b fun a b => decide (b ≤ a)
  | .eq => eqV σ a b
  | .ne => (eqV σ a b).map (!·)
  | .isin => none
  | .notin => none

noncomputable def int2 (a b : V) (k : Int → Int → Option V) : Option V := match a with
  | .int i => (match b with | .int j => k i j | _ => none)
  | _ => none
noncomputable def addV (a b : V) : Option V := match a with
  | .int i => (match b with | .int j => some (.int (i + j)) | _ => none)
  | .str s => (match b with | .str u => if s.length + u.length ≤ lim then some (.str (s ++ u)) else none | _ => none)
  | .lst s => (match b with | .lst u => if s.length + u.length ≤ lim then some (.lst (s ++ u)) else none | _ => none)
  | _ => none
noncomputable def binV (op : BOp) (a b : V) : Option V := match op with
  | .add => addV a b
  | .sub => int2 a b fun a b => some (.int (a - b))
  | .mul => int2 a b fun a b => if a.natAbs < 2 ^ 60 ∧ b.natAbs < 2 ^ 60 then some (.int (a * b)) else none
  | .fdiv => int2 a b fun a b => if 0 < b ∧ b < 2 ^ 60 then some (.int (a / b)) else none
  | .mod => int2 a b fun a b => if 0 < b ∧ b < 2 ^ 60 then some (.int (a % b)) else none
  | .pow => int2 a b fun a b => if a = 10 ∧ 0 ≤ b ∧ b ≤ 40 then some (.int (10 ^ b.toNat)) else none

noncomputable def truthV (_ : St) : V → Option Bool
  | .none => some false
  | .bool b => some b
  | .int i => some (decide (i ≠ 0))
  | _ => none

noncomputable def V.tag : V → Option Nat
  | .none => some 0 | .bool _ => some 1 | .int _ => some 2 | .str _ => some 3 | .tup _ => some 4 | .lst _ => some 5 | _ => Option.none
noncomputable def Ty.tag : Ty → Option Nat
  | .bool => some 1 | .int => some 2 | .str => some 3 | .tuple => some 4 | .list => some 5 | _ => none
noncomputable def refIs (σ : St) (i : Nat) (t : Ty) : Option Bool :=
  match t with
  | .list => (match σ.get i with | some (.list _ _) => some true | _ => none)
  | .own d => (match σ.get i with | some (.inst c _) => if c = d then some true else none | _ => none)
  | _ => none
noncomputable def tagIs : Option Nat → Option Nat → Option Bool
  | some a, some b => some (a == b || (a == 1 && b == 2))
  | _, _ => none
noncomputable def isinstV (_P : Prog) (σ : St) (v : V) (t : Ty) : Option Bool :=
  match v with
  | .ref i => refIs σ i t
  | v => tagIs v.tag t.tag

noncomputable def place (i : Int) (n : Nat) : Option Nat :=
  if i.natAbs < 2 ^ 60 then
    (if 0 ≤ i then (if i < n then some i.toNat else none) else (if 0 ≤ i + n then some (i + n).toNat else none))
  else none

noncomputable def withInt {α : Type} (v : V) (k : Int → Option α) : Option α := match v with | .int i => k i | _ => none
noncomputable def withStr {α : Type} (v : V) (k : Str → Option α) : Option α := match v with | .str s => k s | _ => none
noncomputable def at1 (vs : List V) (k : Int) : Option V := (place k vs.length).bind (vs[·]?)
noncomputable def idxO (i : V) : O → Option V
  | .list _ vs => withInt i (at1 vs)
  | .di _ es => withInt i (lk es)
  | .ds _ es => withStr i (lk es)
  | .inst _ _ => none
noncomputable def idxS (s : Str) (k : Int) : Option V := (place k s.cps.size).bind fun j => (s.cps[j]?).map fun c => .str ⟨#[c]⟩
noncomputable def idxV (σ : St) (o i : V) : Option V := match o with
  | .lst vs => withInt i (at1 vs)
  | .tup vs => withInt i (at1 vs)
  | .str s => withInt i (idxS s)
  | .ref r => (σ.get r).bind (idxO i)
  | _ => none

noncomputable def clampLo (lo : V) (n : Nat) : Option Nat :=
  match lo with
  | .none => some 0
  | .int i => if 0 ≤ i then some (min i.toNat n) else some (i + n).toNat
  | _ => none
noncomputable def clampHi (hi : V) (n : Nat) : Option Nat :=
  match hi with
  | .none => some n
  | .int i => if 0 ≤ i then some (min i.toNat n) else some (i + n).toNat
  | _ => none
noncomputable def cutL {α : Type} (xs : List α) (lo hi : Nat) : List α := (xs.take hi).drop lo

noncomputable def seqOf (σ : St) : V → Option (List V)
  | .lst vs => some vs
  | .ref i => match σ.get i with | some (.list _ vs) => some vs | _ => none
  | _ => none

noncomputable def sOk (s : Str) : Bool := PyData.strOk s && decide (s.cps.size ≤ lim)

noncomputable def mkL (mt : Bool) (vs : List V) (σ : St) : RV :=
  if mt then some (.ok (.ref σ.n), σ.new (.list false vs)) else some (.ok (.lst vs), σ)
noncomputable def mkList (mt : Bool) (vs : List V) (σ : St) : RV := if vs.length ≤ lim then mkL mt vs σ else none

noncomputable def sliceV (mt : Bool) (o lo hi : V) (σ : St) : RV :=
  match o with
  | .str s => match clampLo lo s.cps.size, clampHi hi s.cps.size with
    | some a, some b => some (.ok (.str ⟨(cutL s.cps.toList a b).toArray⟩), σ)
    | _, _ => none
  | _ => match seqOf σ o with
    | some vs => match clampLo lo vs.length, clampHi hi vs.length with
      | some a, some b => mkL mt (cutL vs a b) σ
      | _, _ => none
    | none => none

noncomputable def strLe (a b : Str) : Bool := !(decide (b.cps.toList < a.cps.toList))
noncomputable def pairLe (a b : Int × Int) : Bool := decide (a.1 < b.1) || (decide (a.1 = b.1) && decide (a.2 ≤ b.2))
noncomputable def asStrs : List V → Option (List Str) := mapO fun | .str s => some s | _ => none
noncomputable def asPairs : List V → Option (List (Int × Int)) := mapO fun | .tup [.int a, .int b] => some (a, b) | _ => none
noncomputable def sortV (vs : List V) : Option (List V) :=
  if vs.length < 64 then
    match asStrs vs with
    | some ss => some ((ss.mergeSort strLe).map .str)
    | none => none
  else none

noncomputable def rngList (a b c : Int) : List V := (List.range ((b - a + c - 1) / c).toNat).map fun (k : Nat) => .int (a + c * (k : Int))

noncomputable def itemsOf (σ : St) : V → Option (List V)
  | .lst vs => some vs
  | .rng a b c => if 0 < c ∧ a.natAbs < 2 ^ 60 ∧ b.natAbs < 2 ^ 60 ∧ c < 2 ^ 60 ∧ ((b - a + c - 1) / c).toNat ≤ lim then some (rngList a b c) else none
  | .ref i => match σ.get i with
    | some (.list _ vs) => some vs
    | _ => none
  | _ => none

noncomputable def itersOf (hd : Bool) (σ : St) (v : V) : Option (List V) :=
  if hd then (match v with | .lst vs => some vs | _ => none) else itemsOf σ v

noncomputable def asg2 (k1 k2 : Nat) (v : V) (ρ : Rho) : Option Rho :=
  match v with
  | .tup [x, y] => some (upd (upd ρ k1 x) k2 y)
  | _ => none

noncomputable def sortItems (σ : St) : V → Option (List V)
  | .lst vs => some vs
  | .ref i => match σ.get i with
    | some (.list _ vs) => some vs
    | some (.ds _ es) => some (es.map fun kv => .str kv.1)
    | _ => none
  | _ => none

noncomputable def O.locked : O → O
  | .list _ vs => .list true vs
  | .di _ es => .di true es
  | .ds _ es => .ds true es
  | o => o
noncomputable def lockV (σ : St) : V → St
  | .ref i => match σ.get i with | some o => σ.set i o.locked | none => σ
  | _ => σ
noncomputable def unlockV (σ₀ : St) (v : V) (σ : St) : St :=
  match v with
  | .ref i => match σ₀.get i with | some o => σ.set i o | none => σ
  | _ => σ

noncomputable def arg1 {α : Type} (args : List V) (k : V → Option α) : Option α := match args with | [a] => k a | _ => none
noncomputable def arg2 {α : Type} (args : List V) (k : V → V → Option α) : Option α := match args with | [a, b] => k a b | _ => none
noncomputable def withBool {α : Type} (v : V) (k : Bool → Option α) : Option α := match v with | .bool b => k b | _ => none
noncomputable def withRef {α : Type} (v : V) (k : Nat → Option α) : Option α := match v with | .ref i => k i | _ => none
noncomputable def O.len : O → Option Nat
  | .list _ vs => some vs.length
  | .di _ es => some es.length
  | .ds _ es => some es.length
  | .inst _ _ => none
noncomputable def lenV (σ : St) : V → Option Nat
  | .str s => some s.cps.size
  | .lst vs => some vs.length
  | .tup vs => some vs.length
  | .ref i => (σ.get i).bind O.len
  | _ => none
noncomputable def O.free : O → Option (List V)
  | .list false vs => some vs
  | _ => none
noncomputable def rangeV (args : List V) (σ : St) : RV := match args with
  | [b] => withInt b fun b => some (.ok (.rng 0 b 1), σ)
  | [a, b] => withInt a fun a => withInt b fun b => some (.ok (.rng a b 1), σ)
  | [a, b, c] => withInt a fun a => withInt b fun b => withInt c fun c => if 0 < c ∧ c < 1000000 then some (.ok (.rng a b c), σ) else none
  | _ => none
noncomputable def bfV (f : Bf) (args : List V) (σ : St) : RV :=
  match f with
  | .len => arg1 args fun v => (lenV σ v).map fun (n : Nat) => (Res.ok (V.int (n : Int)), σ)
  | .sorted _ => none
  | .range => rangeV args σ
  | .min => arg2 args fun a b => withInt a fun a => withInt b fun b => some (.ok (.int (if b < a then b else a)), σ)
  | .max => arg2 args fun a b => withInt a fun a => withInt b fun b => some (.ok (.int (if a < b then b else a)), σ)
  | .abs => arg1 args fun a => withInt a fun a => some (.ok (.int (a.natAbs : Int)), σ)
  | .int => none
  | .list => none
  | .tuple => none

noncomputable def popO (i : Nat) (o : O) (k : V) (σ : St) : RV := match o with
  | .di false es => withInt k fun k => (lk es k).map fun v => (.ok v, σ.set i (.di false (rm es k)))
  | .ds false es => withStr k fun k => (lk es k).map fun v => (.ok v, σ.set i (.ds false (rm es k)))
  | _ => none
noncomputable def getO (o : O) (k d : V) (σ : St) : RV := match o with
  | .di _ es => withInt k fun k => some (.ok ((lk es k).getD d), σ)
  | .ds _ es => withStr k fun k => some (.ok ((lk es k).getD d), σ)
  | _ => none
noncomputable def getArgs (args : List V) (k : V → Option V → RV) : RV := match args with
  | [a] => k a none
  | [a, d] => k a (some d)
  | _ => none
noncomputable def arg0 {α : Type} (args : List V) (k : Option α) : Option α := match args with | [] => k | _ => none
noncomputable def bmV (m : Bm) (o : V) (args : List V) (σ : St) : RV :=
  match m with
  | .append => withRef o fun i => arg1 args fun v => ((σ.get i).bind O.free).bind fun vs => if vs.length < lim then some (.ok .none, σ.set i (.list false (vs ++ [v]))) else none
  | .clear => withRef o fun i => arg0 args (((σ.get i).bind O.free).map fun _ => (.ok .none, σ.set i (.list false [])))
  | .pop => none
  | .get => none
  | .startswith => withStr o fun s => arg1 args fun p => withStr p fun p => some (.ok (.bool (p.cps.toList.isPrefixOf s.cps.toList)), σ)
  | .join => withStr o fun sep => arg1 args fun v => (seqOf σ v).bind fun vs => (asStrs vs).bind fun ss =>
      if sep.cps.size = 0 ∧ (ss.map (·.length)).sum + ss.length ≤ lim then some (.ok (.str (Str.join sep ss)), σ) else none

noncomputable def setF : List (String × V) → String → V → List (String × V)
  | [], a, v => [(a, v)]
  | (b, u) :: r, a, v => if b = a then (b, v) :: r else (b, u) :: setF r a v

noncomputable def setattrV (o : V) (a : String) (v : V) (σ : St) : Option St :=
  match o with
  | .ref i => match σ.get i with
    | some (.inst c fs) => if fs.length < 100 then some (σ.set i (.inst c (setF fs a v))) else none
    | _ => none
  | _ => none

noncomputable def setidxV (o k v : V) (σ : St) : Option St :=
  match o with
  | .ref i => match σ.get i with
    | some (.ds false es) => match k with
      | .str k => if es.length < lim then some (σ.set i (.ds false (st es k v))) else none
      | _ => none
    | _ => none
  | _ => none

noncomputable def attrV (σ : St) (o : V) (a : String) : Option V :=
  match o with
  | .ref i => match σ.get i with
    | some (.inst _ fs) => lk fs a
    | _ => none
  | _ => none

noncomputable def methV (P : Prog) (σ : St) (o : V) (m : String) : Option String :=
  match o with
  | .ref i => match σ.get i with
    | some (.inst c fs) => if (lk fs m).isNone && (P.fns c m).isSome then some c else none
    | _ => none
  | _ => none

noncomputable def isListV (σ : St) : V → Bool
  | .ref i => (match σ.get i with | some (.list _ _) => true | _ => false)
  | _ => false
noncomputable def isDictV (σ : St) : V → Bool
  | .ref i => (match σ.get i with | some (.di _ _) => true | some (.ds _ _) => true | _ => false)
  | _ => false
noncomputable def isStrV : V → Bool
  | .str _ => true
  | _ => false
noncomputable def bmPre (σ : St) (m : Bm) (o : V) : Bool :=
  match m with
  | .append => isListV σ o
  | .clear => isListV σ o
  | .pop => false
  | .get => false
  | .startswith => isStrV o
  | .join => isStrV o

noncomputable def Bf.long : Bf → Bool
  | .sorted _ => true | .list => true | .tuple => true | .min => true | .max => true | _ => false
noncomputable def Bm.long : Bm → Bool
  | .join => true | _ => false

noncomputable def Cl := Bool → String → String → List V → List (String × V) → St → RV

noncomputable def compL (test : V → St → Option (Res V × St)) (elt : V → St → Option (Res V × St)) : List V → St → Option (Res (List V) × St)
  | [], σ => some (.ok [], σ)
  | v :: r, σ => match test v σ with
    | some (.ok t, σ1) => match truthV σ1 t with
      | some true => match elt v σ1 with
        | some (.ok x, σ2) => match compL test elt r σ2 with
          | some (.ok xs, σ3) => some (.ok (x :: xs), σ3)
          | _ => none
        | _ => none
      | some false => compL test elt r σ1
      | none => none
    | _ => none

mutual
noncomputable def ev (P : Prog) (cl : Cl) (hd : Bool) : E → Rho → St → RV
  | .cNone, _, σ => some (.ok .none, σ)
  | .cBool b, _, σ => some (.ok (.bool b), σ)
  | .cInt i, _, σ => some (.ok (.int i), σ)
  | .cStr s, _, σ => some (.ok (.str s), σ)
  | .var k, ρ, σ => match ρ k with | some v => some (.ok v, σ) | none => none
  | .bin op a b, ρ, σ => bindM (ev P cl hd a ρ σ) fun x σ => bindM (ev P cl hd b ρ σ) fun y σ =>
      match binV op x y with | some z => some (.ok z, σ) | none => none
  | .cmp op a b, ρ, σ => bindM (ev P cl hd a ρ σ) fun x σ => bindM (ev P cl hd b ρ σ) fun y σ =>
      match cmpV σ op x y with | some z => some (.ok (.bool z), σ) | none => none
  | .bool isAnd es, ρ, σ => evBool P cl hd isAnd es ρ σ
  | .not a, ρ, σ => bindM (ev P cl hd a ρ σ) fun x σ => match truthV σ x with | some t => some (.ok (.bool (!t)), σ) | none => none
  | .neg a, ρ, σ => bindM (ev P cl hd a ρ σ) fun x σ => match x with | .int i => some (.ok (.int (-i)), σ) | _ => none
  | .fcall f args, ρ, σ => bindM (evs P cl hd args ρ σ) fun vs σ => cl hd "" f vs [] σ
  | .new c args kwn kwe, ρ, σ => bindM (evs P cl hd args ρ σ) fun vs σ => bindM (evs P cl hd kwe ρ σ) fun ks σ =>
      bindM (cl hd c "__init__" (.ref σ.n :: vs) (kwn.zip ks) (σ.new (.inst c []))) fun r σ' =>
        match r with | .none => some (.ok (.ref σ.n), σ') | _ => none
  | .mcall o m args kwn kwe, ρ, σ => bindM (ev P cl hd o ρ σ) fun ov σ => match methV P σ ov m with
      | some c => bindM (evs P cl hd args ρ σ) fun vs σ => bindM (evs P cl hd kwe ρ σ) fun ks σ => cl hd c m (ov :: vs) (kwn.zip ks) σ
      | none => none
  | .bcall f args, ρ, σ => bindM (evs P cl hd args ρ σ) fun vs σ => if hd && f.long then none else bfV f vs σ
  | .bmeth m o args, ρ, σ => bindM (ev P cl hd o ρ σ) fun ov σ => if bmPre σ m ov then bindM (evs P cl hd args ρ σ) fun vs σ =>
      if hd && m.long then none else bmV m ov vs σ else none
  | .isinst a t, ρ, σ => bindM (ev P cl hd a ρ σ) fun x σ => match isinstV P σ x t with | some b => some (.ok (.bool b), σ) | none => none
  | .attr o a, ρ, σ => bindM (ev P cl hd o ρ σ) fun ov σ => match attrV σ ov a with | some v => some (.ok v, σ) | none => none
  | .idx o i, ρ, σ => bindM (ev P cl hd o ρ σ) fun ov σ => bindM (ev P cl hd i ρ σ) fun iv σ => match idxV σ ov iv with | some v => some (.ok v, σ) | none => none
  | .slice mt o lo hi, ρ, σ => bindM (ev P cl hd o ρ σ) fun ov σ => bindM (ev P cl hd lo ρ σ) fun lv σ => bindM (ev P cl hd hi ρ σ) fun hv σ => sliceV mt ov lv hv σ
  | .list mt es, ρ, σ => bindM (evs P cl hd es ρ σ) fun vs σ => mkList mt vs σ
  | .tup es, ρ, σ => bindM (evs P cl hd es ρ σ) fun vs σ => if vs.length ≤ lim then some (.ok (.tup vs), σ) else none
  | .dict ks vs, ρ, σ => bindM (evs P cl hd vs ρ σ) fun xs σ => some (.ok (.ref σ.n), σ.new (.ds false (ks.zip xs)))
  | .comp mt elt k it cond, ρ, σ => if hd then none else bindM (ev P cl hd it ρ σ) fun itv σ =>
      match itemsOf σ itv with
      | some items =>
        match compL (fun v σ => ev P cl hd cond (upd ρ k v) σ) (fun v σ => ev P cl hd elt (upd ρ k v) σ) items (lockV σ itv) with
        | some (.ok xs, σ') => mkL mt xs (unlockV σ itv σ')
        | _ => none
      | none => none
termination_by structural e => e
noncomputable def evs (P : Prog) (cl : Cl) (hd : Bool) : List E → Rho → St → Option (Res (List V) × St)
  | [], _, σ => some (.ok [], σ)
  | e :: r, ρ, σ => bindM (ev P cl hd e ρ σ) fun x σ => bindM (evs P cl hd r ρ σ) fun xs σ => some (.ok (x :: xs), σ)
termination_by structural l => l
noncomputable def evBool (P : Prog) (cl : Cl) (hd : Bool) (isAnd : Bool) : List E → Rho → St → RV
  | [], _, _ => none
  | e :: r, ρ, σ => bindM (ev P cl hd e ρ σ) fun x σ => match r with
      | [] => some (.ok x, σ)
      | _ :: _ => match truthV σ x with
        | some t => if t = isAnd then evBool P cl hd isAnd r ρ σ else some (.ok x, σ)
        | none => none
termination_by structural l => l
end

inductive Fl where
  | next
  | ret (v : V)
  | exc (c : String)

abbrev RS := Option (Fl × Rho × St)

noncomputable def bindE (m : RV) (ρ : Rho) (k : V → St → RS) : RS :=
  match m with
  | none => none
  | some (.exc c, σ) => some (.exc c, ρ, σ)
  | some (.ok a, σ) => k a σ

noncomputable def loop (f : V → Rho → St → RS) : List V → Rho → St → RS
  | [], ρ, σ => some (.next, ρ, σ)
  | v :: r, ρ, σ => match f v ρ σ with
    | some (.next, ρ', σ') => loop f r ρ' σ'
    | some (.ret x, ρ', σ') => some (.ret x, ρ', σ')
    | _ => none

noncomputable def loopEnd (hd : Bool) (σ₁ : St) (v : V) : RS → RS
  | some (.next, ρ, σ) => if hd then none else some (.next, ρ, unlockV σ₁ v σ)
  | some (.ret x, ρ, σ) => some (.ret x, ρ, unlockV σ₁ v σ)
  | _ => none

noncomputable def bindS (m : RS) (k : Rho → St → RS) : RS :=
  match m with
  | some (.next, ρ, σ) => k ρ σ
  | r => r

mutual
noncomputable def exec (P : Prog) (cl : Cl) (hd : Bool) : S → Rho → St → RS
  | .expr e, ρ, σ => bindE (ev P cl hd e ρ σ) ρ fun _ σ => some (.next, ρ, σ)
  | .assign k e, ρ, σ => bindE (ev P cl hd e ρ σ) ρ fun v σ => some (.next, upd ρ k v, σ)
  | .setattr o a e, ρ, σ => bindE (ev P cl hd e ρ σ) ρ fun v σ => bindE (ev P cl hd o ρ σ) ρ fun ov σ =>
      match setattrV ov a v σ with | some σ' => some (.next, ρ, σ') | none => none
  | .setidx o i e, ρ, σ => bindE (ev P cl hd e ρ σ) ρ fun v σ => bindE (ev P cl hd o ρ σ) ρ fun ov σ => bindE (ev P cl hd i ρ σ) ρ fun iv σ =>
      match setidxV ov iv v σ with | some σ' => some (.next, ρ, σ') | none => none
  | .ite c t f, ρ, σ => bindE (ev P cl hd c ρ σ) ρ fun v σ =>
      match truthV σ v with | some true => execs P cl hd t ρ σ | some false => execs P cl hd f ρ σ | none => none
  | .for1 k it b, ρ, σ => bindE (ev P cl hd it ρ σ) ρ fun itv σ =>
      match itersOf hd σ itv with
      | some items => loopEnd hd σ itv (loop (fun v ρ σ => execs P cl hd b (upd ρ k v) σ) items ρ (lockV σ itv))
      | none => none
  | .ret e, ρ, σ => bindE (ev P cl hd e ρ σ) ρ fun v σ => some (.ret v, ρ, σ)
termination_by structural s => s
noncomputable def execs (P : Prog) (cl : Cl) (hd : Bool) : List S → Rho → St → RS
  | [], ρ, σ => some (.next, ρ, σ)
  | s :: r, ρ, σ => bindS (exec P cl hd s ρ σ) fun ρ σ => execs P cl hd r ρ σ
termination_by structural l => l
end

noncomputable def bindP {κ α : Type} [DecidableEq κ] (ps : List κ) (as : List α) (kws : List (κ × α)) (ds : List (Option α)) : Option (List α) :=
  if as.length ≤ ps.length then mapO (fun pj => (as[pj.2]?).or ((lk kws pj.1).or ((ds[pj.2]?).join))) ps.zipIdx else none

noncomputable def dfls {α : Type} (m : Nat) (ds : List α) : List (Option α) := List.replicate (m - ds.length) none ++ ds.map some
noncomputable def Fn.dflts (f : Fn) : List (Option V) := dfls f.params.length f.defaults

noncomputable def rhoOf (vs : List V) : Rho := fun k => vs[k]?

noncomputable def run (P : Prog) : Nat → Cl
  | 0 => fun _ _ _ _ _ _ => none
  | n + 1 => fun hd c f args kws σ => match P.fns c f with
    | none => none
    | some fn => if kws.all (fun k => (fn.params.drop args.length).contains k.1) && decide (kws.map (·.1)).Nodup then match bindP fn.params args kws fn.dflts with
      | none => none
      | some vs => match execs P (run P n) hd fn.body (rhoOf vs) σ with
        | some (.ret v, _, σ') => some (.ok v, σ')
        | some (.next, _, σ') => some (.ok .none, σ')
        | some (.exc c, _, σ') => some (.exc c, σ')
        | none => none
      else none

section
variable (P : Prog) (cl : Cl) (hd : Bool) (ρ : Rho) (σ : St)
theorem e_cNone : ev P cl hd .cNone ρ σ = some (.ok .none, σ) := rfl
theorem e_cBool (b : Bool) : ev P cl hd (.cBool b) ρ σ = some (.ok (.bool b), σ) := rfl
theorem e_cInt (i : Int) : ev P cl hd (.cInt i) ρ σ = some (.ok (.int i), σ) := rfl
theorem e_cStr (s : Str) : ev P cl hd (.cStr s) ρ σ = some (.ok (.str s), σ) := rfl
theorem e_var (k : Nat) : ev P cl hd (.var k) ρ σ = match ρ k with | some v => some (.ok v, σ) | none => none := rfl
theorem e_bin (op : BOp) (a b : E) : ev P cl hd (.bin op a b) ρ σ = bindM (ev P cl hd a ρ σ) fun x σ => bindM (ev P cl hd b ρ σ) fun y σ => match binV op x y with | some z => some (.ok z, σ) | none => none := rfl
theorem e_cmp (op : COp) (a b : E) : ev P cl hd (.cmp op a b) ρ σ = bindM (ev P cl hd a ρ σ) fun x σ => bindM (ev P cl hd b ρ σ) fun y σ => match cmpV σ op x y with | some z => some (.ok (.bool z), σ) | none => none := rfl
theorem e_bool (b : Bool) (es : List E) : ev P cl hd (.bool b es) ρ σ = evBool P cl hd b es ρ σ := rfl
theorem e_not (a : E) : ev P cl hd (.not a) ρ σ = bindM (ev P cl hd a ρ σ) fun x σ => match truthV σ x with | some t => some (.ok (.bool (!t)), σ) | none => none := rfl
theorem e_neg (a : E) : ev P cl hd (.neg a) ρ σ = bindM (ev P cl hd a ρ σ) fun x σ => match x with | .int i => some (.ok (.int (-i)), σ) | _ => none := rfl
theorem e_fcall (f : String) (es : List E) : ev P cl hd (.fcall f es) ρ σ = bindM (evs P cl hd es ρ σ) fun vs σ => cl hd "" f vs [] σ := rfl
theorem e_new (c : String) (es : List E) (kwn : List String) (kwe : List E) : ev P cl hd (.new c es kwn kwe) ρ σ = bindM (evs P cl hd es ρ σ) fun vs σ => bindM (evs P cl hd kwe ρ σ) fun ks σ =>
      bindM (cl hd c "__init__" (.ref σ.n :: vs) (kwn.zip ks) (σ.new (.inst c []))) fun r σ' => match r with | .none => some (.ok (.ref σ.n), σ') | _ => none := rfl
theorem e_mcall (o : E) (m : String) (es : List E) (kwn : List String) (kwe : List E) : ev P cl hd (.mcall o m es kwn kwe) ρ σ = bindM (ev P cl hd o ρ σ) fun ov σ => match methV P σ ov m with
      | some c => bindM (evs P cl hd es ρ σ) fun vs σ => bindM (evs P cl hd kwe ρ σ) fun ks σ => cl hd c m (ov :: vs) (kwn.zip ks) σ
      | none => none := rfl
theorem e_bcall (f : Bf) (es : List E) : ev P cl hd (.bcall f es) ρ σ = bindM (evs P cl hd es ρ σ) fun vs σ => if hd && f.long then none else bfV f vs σ := rfl
theorem e_bmeth (m : Bm) (o : E) (es : List E) : ev P cl hd (.bmeth m o es) ρ σ = bindM (ev P cl hd o ρ σ) fun ov σ => if bmPre σ m ov then bindM (evs P cl hd es ρ σ) fun vs σ =>
      if hd && m.long then none else bmV m ov vs σ else none := rfl
theorem e_isinst (a : E) (t : Ty) : ev P cl hd (.isinst a t) ρ σ = bindM (ev P cl hd a ρ σ) fun x σ => match isinstV P σ x t with | some b => some (.ok (.bool b), σ) | none => none := rfl
theorem e_attr (o : E) (a : String) : ev P cl hd (.attr o a) ρ σ = bindM (ev P cl hd o ρ σ) fun ov σ => match attrV σ ov a with | some v => some (.ok v, σ) | none => none := rfl
theorem e_idx (o i : E) : ev P cl hd (.idx o i) ρ σ = bindM (ev P cl hd o ρ σ) fun ov σ => bindM (ev P cl hd i ρ σ) fun iv σ => match idxV σ ov iv with | some v => some (.ok v, σ) | none => none := rfl
theorem e_slice (mt : Bool) (o lo hi : E) : ev P cl hd (.slice mt o lo hi) ρ σ = bindM (ev P cl hd o ρ σ) fun ov σ => bindM (ev P cl hd lo ρ σ) fun lv σ => bindM (ev P cl hd hi ρ σ) fun hv σ => sliceV mt ov lv hv σ := rfl
theorem e_list (mt : Bool) (es : List E) : ev P cl hd (.list mt es) ρ σ = bindM (evs P cl hd es ρ σ) fun vs σ => mkList mt vs σ := rfl
theorem e_tup (es : List E) : ev P cl hd (.tup es) ρ σ = bindM (evs P cl hd es ρ σ) fun vs σ => if vs.length ≤ lim then some (.ok (.tup vs), σ) else none := rfl
theorem e_dict (ks : List Str) (es : List E) : ev P cl hd (.dict ks es) ρ σ = bindM (evs P cl hd es ρ σ) fun xs σ => some (.ok (.ref σ.n), σ.new (.ds false (ks.zip xs))) := rfl
theorem x_expr (e : E) : exec P cl hd (.expr e) ρ σ = bindE (ev P cl hd e ρ σ) ρ fun _ σ => some (.next, ρ, σ) := rfl
theorem x_assign (k : Nat) (e : E) : exec P cl hd (.assign k e) ρ σ = bindE (ev P cl hd e ρ σ) ρ fun v σ => some (.next, upd ρ k v, σ) := rfl
theorem x_setattr (o : E) (a : String) (e : E) : exec P cl hd (.setattr o a e) ρ σ = bindE (ev P cl hd e ρ σ) ρ fun v σ => bindE (ev P cl hd o ρ σ) ρ fun ov σ =>
      match setattrV ov a v σ with | some σ' => some (.next, ρ, σ') | none => none := rfl
theorem x_setidx (o i e : E) : exec P cl hd (.setidx o i e) ρ σ = bindE (ev P cl hd e ρ σ) ρ fun v σ => bindE (ev P cl hd o ρ σ) ρ fun ov σ => bindE (ev P cl hd i ρ σ) ρ fun iv σ =>
      match setidxV ov iv v σ with | some σ' => some (.next, ρ, σ') | none => none := rfl
theorem x_ite (c : E) (t f : List S) : exec P cl hd (.ite c t f) ρ σ = bindE (ev P cl hd c ρ σ) ρ fun v σ =>
      match truthV σ v with | some true => execs P cl hd t ρ σ | some false => execs P cl hd f ρ σ | none => none := rfl
theorem x_ret (e : E) : exec P cl hd (.ret e) ρ σ = bindE (ev P cl hd e ρ σ) ρ fun v σ => some (.ret v, ρ, σ) := rfl
theorem e_comp0 (mt : Bool) (elt : E) (k : Nat) (it cond : E) : ev P cl hd (.comp mt elt k it cond) ρ σ = if hd then none else bindM (ev P cl hd it ρ σ) fun itv σ =>
      match itemsOf σ itv with
      | some items =>
        match compL (fun v σ => ev P cl hd cond (upd ρ k v) σ) (fun v σ => ev P cl hd elt (upd ρ k v) σ) items (lockV σ itv) with
        | some (.ok xs, σ') => mkL mt xs (unlockV σ itv σ')
        | _ => none
      | none => none := rfl
theorem x_for1e (k : Nat) (it : E) (b : List S) : exec P cl hd (.for1 k it b) ρ σ = bindE (ev P cl hd it ρ σ) ρ fun itv σ =>
      match itersOf hd σ itv with
      | some items => loopEnd hd σ itv (loop (fun v ρ σ => execs P cl hd b (upd ρ k v) σ) items ρ (lockV σ itv))
      | none => none := rfl
end

structure Com where
  fns : List String
  cls : List String
  excs : List String
  attrs : List String
  bifs : List String
  gis : List (String × Int)

structure Ent where
  cc : String
  m : String
  fn : Fn
  vis : List (Str × Nat)

noncomputable def tblFns (T : List Ent) (c m : String) : Option Fn := (T.find? fun e => e.cc == c && e.m == m).map (·.fn)
noncomputable def progOf (T : List Ent) (sub : String → String → Bool) : Prog := ⟨tblFns T, sub⟩

end Lw
set_option genInjectivity false
set_option genSizeOf false
namespace Lw
open PySem PySem.W PyProof.Rows

structure Cxt where
  scope : Scope
  vis : List (Str × Nat)
  inComp : Bool
  fns : List String
  cls : List String
  excs : List String
  attrs : List String
  bifs : List String
  gis : List (String × Int)

noncomputable def tyName : Ty → String
  | .int => "int" | .bool => "bool" | .str => "str" | .tuple => "tuple" | .list => "list" | .valueError => "ValueError" | .own c => c
noncomputable def bopOf : BOp → Operator
  | .add => .Add | .sub => .Sub | .mul => .Mult | .fdiv => .FloorDiv | .mod => .Mod | .pow => .Pow
noncomputable def copOf : COp → CmpOp
  | .lt => .Lt | .le => .LtE | .gt => .Gt | .ge => .GtE | .eq => .Eq | .ne => .NotEq | .isin => .In | .notin => .NotIn
noncomputable def bfName : Bf → String
  | .len => "len" | .sorted _ => "sorted" | .range => "range" | .min => "min" | .max => "max" | .abs => "abs" | .int => "int" | .list => "list" | .tuple => "tuple"
noncomputable def bmName : Bm → String
  | .append => "append" | .clear => "clear" | .pop => "pop" | .get => "get" | .startswith => "startswith" | .join => "join"

noncomputable def Cxt.isLocal (c : Cxt) (x : Str) : Bool := match c.scope.names.lookup x with
  | some .local => true | some .cell => true | some .free => true | _ => false
noncomputable def Cxt.isGlob (c : Cxt) (x : Str) : Bool := c.scope.names.lookup x == some .globalImplicit && !(x == ("__debug__" : Str))

noncomputable def compScope (s : Scope) : Scope := { s with names := s.names.map fun (n, k) => if k == .free then (n, .cell) else (n, k) }
noncomputable def Cxt.inner (c : Cxt) (s : Scope) (x : Str) (k : Nat) : Cxt :=
  { c with scope := compScope s, vis := (x, k) :: c.vis.filter (fun p => s.names.lookup p.1 == some .free), inComp := true }

noncomputable def Cxt.compOk (c : Cxt) (s : Scope) (x : Str) (k : Nat) : Bool :=
  !c.inComp && s.kind == .function && c.scope.kind == .function && !s.isGenerator && !s.isCoroutine &&
  s.names.lookup x == some .local && !(x == (".0" : Str)) && c.vis.all (fun p => p.2 != k) &&
  s.names.all (fun (n, kd) => (kd == .local && (n == x || n == (".0" : Str))) || (kd == .free && c.scope.names.lookup n == some .cell) || kd == .globalImplicit) &&
  decide (s.names.map (·.1)).Nodup

noncomputable def tagE : Expr → Nat
  | .Slice .. => 1
  | .Set .. => 2
  | .Starred .. => 3
  | .ListComp .. => 4
  | .SetComp .. => 4
  | .DictComp .. => 4
  | _ => 0
noncomputable def notSliceE (e : Expr) : Bool := tagE e != 1
noncomputable def notSetE (e : Expr) : Bool := tagE e != 2
noncomputable def notStar (e : Expr) : Bool := tagE e != 3
noncomputable def notComp (e : Expr) : Bool := tagE e != 4
noncomputable def notSuper : Expr → Bool
  | .Call (.Name id _) _ _ _ => !(id == ("super" : Str))
  | _ => true
noncomputable def tyOk (c : Cxt) (t : Ty) : Bool := match t with | .own k => c.cls.contains k || c.excs.contains k | _ => c.bifs.contains (tyName t)

noncomputable def isCNone : E → Bool
  | .cNone => true
  | _ => false
noncomputable def isCTrue : E → Bool
  | .cBool true => true
  | _ => false
noncomputable def okKeys : List Str → List (Option Expr) → Bool
  | [], [] => true
  | k :: ks, some (.Constant (.str s) _ _) :: r => s == k && okKeys ks r
  | _, _ => false

mutual
noncomputable def okE (c : Cxt) : E → Expr → Bool
  | .cNone, .Constant .none _ _ => true
  | .cBool b, .Constant (.bool b') _ _ => b == b'
  | .cInt i, .Constant (.int i') _ _ => i == i'
  | .cStr s, .Constant (.str s') _ _ => s == s' && sOk s
  | .var k, .Name x _ => c.vis.lookup x == some k && c.isLocal x && !(x == ("__debug__" : Str)) && !(x == ("__classdict__" : Str))
  | .bin op a b, .BinOp l o r _ => o == bopOf op && okE c a l && okE c b r
  | .cmp op a b, .Compare l [o] [r] _ => o == copOf op && notSetE r && okE c a l && okE c b r
  | .bool isAnd es, .BoolOp op vs _ => (op == (if isAnd then .And else .Or)) && !es.isEmpty && okEs c es vs
  | .not a, .UnaryOp .Not x _ => okE c a x
  | .neg a, .UnaryOp .USub x _ => okE c a x
  | .fcall f args, .Call (.Name y _) as [] _ => y == Str.ofString f && c.isGlob y && c.fns.contains f && as.length < 10 && okEs c args as
  | .new k args kwn kwe, .Call (.Name y _) as ks _ => y == Str.ofString k && c.isGlob y && c.cls.contains k && as.length < 10 && ks.length < 5 && okEs c args as && okKs c kwn kwe ks
  | .mcall o m args kwn kwe, .Call (.Attribute oe y ap) as ks pos => y == Str.ofString m && notSuper oe && ap.endLine == pos.line && as.length < 10 && ks.length < 5 && okE c o oe && okEs c args as && okKs c kwn kwe ks
  | .bcall f args, .Call (.Name y _) as [] _ => y == Str.ofString (bfName f) && c.isGlob y && c.bifs.contains (bfName f) && as.length < 10 && okEs c args as
  | .bmeth m o args, .Call (.Attribute oe y ap) as [] pos => y == Str.ofString (bmName m) && notSuper oe && ap.endLine == pos.line && as.length < 10 && okE c o oe && okEs c args as
  | .isinst a t, .Call (.Name y _) [x, .Name z _] [] _ => y == ("isinstance" : Str) && c.isGlob y && c.bifs.contains "isinstance" && notStar x && z == Str.ofString (tyName t) && c.isGlob z &&
      tyOk c t && okE c a x
  | .attr o a, .Attribute oe y _ => y == Str.ofString a && c.attrs.contains a && notSuper oe && okE c o oe
  | .idx o i, .Subscript oe ie _ => notSliceE ie && okE c o oe && okE c i ie
  | .slice _ o lo hi, .Subscript oe (.Slice l h none _) _ => okE c o oe && (match l with | none => isCNone lo | some e => okE c lo e) && (match h with | none => isCNone hi | some e => okE c hi e)
  | .list _ es, .List vs _ => okEs c es vs
  | .tup es, .Tuple vs _ _ => okEs c es vs
  | .dict ks vs, .Dict kes ves _ => !ks.isEmpty && ks.length < 10 && vs.length == ks.length && okKeys ks kes && ks.all sOk && decide ks.Nodup && okEs c vs ves
  | .comp _ elt k it cond, .ListComp ee [⟨.Name x _, ie, ifs, as⟩] s _ => (as == 0) && notSetE ie && c.compOk s x k && okE c it ie && okE (c.inner s x k) elt ee && (match ifs with | [] => isCTrue cond | [e] => okE (c.inner s x k) cond e | _ => false)
  | _, _ => false
termination_by structural e => e
noncomputable def okEs (c : Cxt) : List E → List Expr → Bool
  | [], [] => true
  | a :: r, e :: es => notStar e && okE c a e && okEs c r es
  | _, _ => false
termination_by structural l => l
noncomputable def okKs (c : Cxt) : List String → List E → List Keyword → Bool
  | [], [], [] => true
  | n :: ns, a :: r, ⟨some y, e, _⟩ :: ks => y == Str.ofString n && okE c a e && okKs c ns r ks
  | _, _, _ => false
termination_by structural _ l => l
end

noncomputable def nameOf : Expr → Option Str
  | .Name x _ => some x
  | _ => none
noncomputable def names2 : List Expr → Option (Str × Str)
  | [a, b] => (nameOf a).bind fun x => (nameOf b).map fun y => (x, y)
  | _ => none
noncomputable def tgt2 : Expr → Option (Str × Str)
  | .Tuple ts _ _ => names2 ts
  | _ => none
noncomputable def for2Ok (c : Cxt) (k1 k2 : Nat) (tg : Expr) : Bool := match tgt2 tg with
  | some (x, y) => c.vis.lookup x == some k1 && (c.scope.names.lookup x == some .local) && c.vis.lookup y == some k2 && (c.scope.names.lookup y == some .local)
  | none => false

mutual
noncomputable def okS (c : Cxt) : S → Stmt → Bool
  | .expr e, .Expr v _ => notComp v && okE c e v
  | .assign k e, .Assign [.Name x _] v _ => c.vis.lookup x == some k && (c.scope.names.lookup x == some .local || c.scope.names.lookup x == some .cell) && notComp v && okE c e v
  | .setattr o a e, .Assign [.Attribute oe y _] v _ => y == Str.ofString a && c.attrs.contains a && notComp v && okE c o oe && okE c e v
  | .setidx o i e, .Assign [.Subscript oe ie _] v _ => notComp v && okE c o oe && okE c i ie && okE c e v
  | .ite t a b, .If te as bs _ => okE c t te && okSs c a as && okSs c b bs
  | .for1 k it b, .For (.Name x _) ie bs [] _ => c.vis.lookup x == some k && (c.scope.names.lookup x == some .local) && notSetE ie && okE c it ie && okSs c b bs
  | .ret e, .Return (some v) _ => okE c e v
  | _, _ => false
termination_by structural s => s
noncomputable def okSs (c : Cxt) : List S → List Stmt → Bool
  | [], [] => true
  | a :: r, s :: ss => okS c a s && okSs c r ss
  | _, _ => false
termination_by structural l => l
end
end Lw
set_option autoImplicit false
namespace Lw
open PySem PySem.W PyProof.Rows

structure Wd where
  g : Addr → Option Obj
  φ : List (Addr × Addr)
  na : Addr → Prop

structure Wd.Le (a b : Wd) : Prop where
  g : ∀ x o, a.g x = some o → b.g x = some o
  φ : a.φ <+: b.φ
  na : b.na = a.na
  old : ∀ x o, a.na x → b.g x = some o → a.g x = some o

theorem Wd.Le.refl (a : Wd) : a.Le a := ⟨fun _ _ h => h, List.prefix_refl _, rfl, fun _ _ _ h => h⟩
theorem Wd.Le.trans {a b c : Wd} (h : a.Le b) (k : b.Le c) : a.Le c := ⟨fun x o e => k.g x o (h.g x o e), h.φ.trans k.φ, k.na.trans h.na, fun x o n e => h.old x o n (k.old x o (by rw [h.na]; exact n) e)⟩
theorem prefix_get {a b : List (Addr × Addr)} (h : a <+: b) {i : Nat} {p : Addr × Addr} (e : a[i]? = some p) : b[i]? = some p := by
  obtain ⟨t, ht⟩ := h
  rw [← ht, List.getElem?_append_left (by rcases List.getElem?_eq_some_iff.mp e with ⟨q, _⟩; exact q)]
  exact e
theorem Wd.Le.get {a b : Wd} (h : a.Le b) {i : Nat} {p : Addr × Addr} (e : a.φ[i]? = some p) : b.φ[i]? = some p := by
  obtain ⟨t, ht⟩ := h.φ
  rw [← ht, List.getElem?_append_left (by rcases List.getElem?_eq_some_iff.mp e with ⟨q, _⟩; exact q)]
  exact e

structure Cx where
  px : Addr → Option Obj
  lk : Addr → Option Obj
  fr : List (Addr × Obj)
  cn : List String
  an : List String

noncomputable def clsAt (K : Frag) (c : String) : Option Addr := match nsIn K mainGlobals (Str.ofString c) with
  | some (some (.ref a)) => some a
  | _ => none

noncomputable def RangeObj (o : Obj) (a b c : Int) : Prop := ∃ t u v, o = { cls := .type "range", data := .fields #[.int a t, .int b u, .int c v] }

mutual
inductive VR (K : Frag) (w : Wd) : V → Value → Prop
  | none : VR K w .none .none
  | bool (b : Bool) : VR K w (.bool b) (.bool b)
  | int (i : Int) (t : Tok) : VR K w (.int i) (.int i t)
  | str (s : Str) (t : Tok) : sOk s = true → VR K w (.str s) (.str s t)
  | tup {vs : List V} {a : Addr} {o : Obj} {xs : Array Value} {n : Nat} : w.g a = some o → o.cls = .type "tuple" → o.data = .seq xs n → VRs K w vs xs.toList → vs.length ≤ lim → VR K w (.tup vs) (.ref a)
  | lst {vs : List V} {a : Addr} {o : Obj} {xs : Array Value} {n : Nat} : w.g a = some o → o.cls = .type "list" → o.data = .seq xs n → VRs K w vs xs.toList → vs.length ≤ lim → VR K w (.lst vs) (.ref a)
  | rng {x y z : Int} {a : Addr} {o : Obj} : w.g a = some o → RangeObj o x y z → VR K w (.rng x y z) (.ref a)
  | ref {i : Nat} {p : Addr × Addr} : w.φ[i]? = some p → VR K w (.ref i) (.ref p.1)
  | exc {c : String} {a C : Addr} {o : Obj} : w.g a = some o → o.cls = .ref C → notCls o = true → clsAt K c = some C → VR K w (.exc c) (.ref a)
inductive VRs (K : Frag) (w : Wd) : List V → List Value → Prop
  | nil : VRs K w [] []
  | cons {v : V} {x : Value} {vs : List V} {xs : List Value} : VR K w v x → VRs K w vs xs → VRs K w (v :: vs) (x :: xs)
end

theorem VR.mono0 {K : Frag} {w w' : Wd} (h : (∀ x o, w.g x = some o → w'.g x = some o) ∧ w.φ <+: w'.φ) {v : V} {x : Value} (hv : VR K w v x) : VR K w' v x :=
  VR.rec (motive_1 := fun v x _ => VR K w' v x) (motive_2 := fun v x _ => VRs K w' v x) .none (fun b => .bool b) (fun i t => .int i t) (fun s t k => .str s t k) (fun e c d _ l ih => .tup (h.1 _ _ e) c d ih l) (fun e c d _ l ih => .lst (h.1 _ _ e) c d ih l) (fun e r => .rng (h.1 _ _ e) r) (fun e => .ref (prefix_get h.2 e)) (fun e c n k => .exc (h.1 _ _ e) c n k) .nil (fun _ _ a b => .cons a b) hv
theorem VRs.mono0 {K : Frag} {w w' : Wd} (h : (∀ x o, w.g x = some o → w'.g x = some o) ∧ w.φ <+: w'.φ) {v : List V} {x : List Value} (hv : VRs K w v x) : VRs K w' v x :=
  VRs.rec (motive_1 := fun v x _ => VR K w' v x) (motive_2 := fun v x _ => VRs K w' v x) .none (fun b => .bool b) (fun i t => .int i t) (fun s t k => .str s t k) (fun e c d _ l ih => .tup (h.1 _ _ e) c d ih l) (fun e c d _ l ih => .lst (h.1 _ _ e) c d ih l) (fun e r => .rng (h.1 _ _ e) r) (fun e => .ref (prefix_get h.2 e)) (fun e c n k => .exc (h.1 _ _ e) c n k) .nil (fun _ _ a b => .cons a b) hv
theorem VR.mono {K : Frag} {w w' : Wd} (h : w.Le w') {v : V} {x : Value} (r : VR K w v x) : VR K w' v x := r.mono0 ⟨h.g, h.φ⟩
theorem VRs.mono {K : Frag} {w w' : Wd} (h : w.Le w') {v : List V} {x : List Value} (r : VRs K w v x) : VRs K w' v x := r.mono0 ⟨h.g, h.φ⟩

noncomputable def Wd.Sub (a b : Wd) : Prop := (∀ x o, a.g x = some o → b.g x = some o) ∧ a.φ <+: b.φ
theorem Wd.Le.sub {a b : Wd} (h : a.Le b) : a.Sub b := ⟨h.g, h.φ⟩
section
variable {K : Frag} {w : Wd}
theorem VRs.length : ∀ {vs : List V} {xs : List Value}, VRs K w vs xs → vs.length = xs.length
  | _, _, .nil => rfl
  | _, _, .cons _ r => by simp [r.length]
theorem VRs.get : ∀ {vs : List V} {xs : List Value}, VRs K w vs xs → ∀ {i : Nat} {v : V}, vs[i]? = some v → ∃ x, xs[i]? = some x ∧ VR K w v x
  | _, _, .nil, i, v, h => by simp at h
  | _, _, .cons a r, 0, v, h => by simp at h; subst h; exact ⟨_, rfl, a⟩
  | _, _, .cons a r, i + 1, v, h => by simpa using r.get (by simpa using h)
theorem VRs.append : ∀ {vs us : List V} {xs ys : List Value}, VRs K w vs xs → VRs K w us ys → VRs K w (vs ++ us) (xs ++ ys)
  | _, _, _, _, .nil, k => k
  | _, _, _, _, .cons a r, k => .cons a (r.append k)
theorem VRs.take : ∀ {vs : List V} {xs : List Value} (n : Nat), VRs K w vs xs → VRs K w (vs.take n) (xs.take n)
  | _, _, 0, _ => by simpa using VRs.nil
  | _, _, _ + 1, .nil => .nil
  | _, _, n + 1, .cons a r => by simpa using VRs.cons a (r.take n)
theorem VRs.drop : ∀ {vs : List V} {xs : List Value} (n : Nat), VRs K w vs xs → VRs K w (vs.drop n) (xs.drop n)
  | _, _, 0, r => by simpa using r
  | _, _, _ + 1, .nil => .nil
  | _, _, n + 1, .cons a r => by simpa using r.drop n
end

inductive ER {κ : Type} (K : Frag) (w : Wd) : List (κ × V) → List (κ × Value) → Prop
  | nil : ER K w [] []
  | cons {k : κ} {v : V} {x : Value} {es : List (κ × V)} {kvs : List (κ × Value)} : VR K w v x → ER K w es kvs → ER K w ((k, v) :: es) ((k, x) :: kvs)

inductive FsR (ω : World) (K : Frag) (w : Wd) : List (String × V) → List DictEntry → Prop
  | nil : FsR ω K w [] []
  | cons {a : String} {v : V} {x : Value} {t : Tok} {fs : List (String × V)} {es : List DictEntry} : VR K w v x → FsR ω K w fs es →
      FsR ω K w ((a, v) :: fs) (⟨PyData.keyHash ω.params (Str.ofString a), .str (Str.ofString a) t, x⟩ :: es)

noncomputable def ORel (prog : Program) (ω : World) (K : Frag) (c : Cx) (w : Wd) (h : Heap) (p : Addr × Addr) : O → Prop
  | .list lk vs => p.2 = p.1 ∧ ∃ xs n, h.get? p.1 = some ⟨.type "list", none, .seq xs n, #[]⟩ ∧ VRs K w vs xs.toList ∧ vs.length ≤ lim ∧ (if lk then c.lk p.1 = some ⟨.type "list", none, .seq xs n, #[]⟩ else c.lk p.1 = none)
  | .di lk es => p.2 = p.1 ∧ ∃ o kvs, h.get? p.1 = some o ∧ o.IsDictOf (intKind prog ω) kvs ∧ ER K w es kvs ∧ es.length ≤ lim ∧ (if lk then c.lk p.1 = some o else c.lk p.1 = none)
  | .ds lk es => p.2 = p.1 ∧ ∃ o kvs, h.get? p.1 = some o ∧ o.IsDictOf (strKind prog ω) kvs ∧ ER K w es kvs ∧ (∀ kv ∈ es, sOk kv.1 = true) ∧ es.length ≤ lim ∧ (if lk then c.lk p.1 = some o else c.lk p.1 = none)
  | .inst cn fs => p.1 ≠ p.2 ∧ cn ∈ c.cn ∧ ∃ C es n, clsAt K cn = some C ∧ h.get? p.1 = some (instObj C p.2) ∧ h.get? p.2 = some (dictOf es n) ∧ FsR ω K w fs es ∧ c.lk p.1 = none ∧ c.lk p.2 = none

noncomputable def Cx.Cov (c : Cx) (x : Addr) : Prop := (∃ o, c.px x = some o) ∨ ∃ q ∈ c.fr, q.1 = x

structure SR (prog : Program) (ω : World) (K : Frag) (c : Cx) (w : Wd) (σ : St) (h : Heap) : Prop where
  kg : ∀ x o, w.g x = some o → h.get? x = some o
  kp : ∀ x o, c.px x = some o → h.get? x = some o
  kl : ∀ x o, c.lk x = some o → h.get? x = some o
  kf : ∀ q ∈ c.fr, ∃ sl, h.get? q.1 = some { q.2 with slots := sl }
  len : σ.n = w.φ.length
  used : ∀ x, w.na x → c.Cov x
  obj : ∀ (i : Nat) (o : O), σ.get i = some o → ∃ p, w.φ[i]? = some p ∧ ORel prog ω K c w h p o
  out : ∀ (i : Nat) (p : Addr × Addr), w.φ[i]? = some p → w.g p.1 = none ∧ w.g p.2 = none ∧ (∀ q ∈ c.fr, q.1 ≠ p.1 ∧ q.1 ≠ p.2) ∧ p.1 ≠ sysModules ∧ (∃ o, h.get? p.1 = some o) ∧ (∃ o, h.get? p.2 = some o) ∧ c.px p.1 = none ∧ c.px p.2 = none
  apart : ∀ (i j : Nat) (p q : Addr × Addr), i ≠ j → w.φ[i]? = some p → w.φ[j]? = some q → p.1 ≠ q.1 ∧ p.1 ≠ q.2 ∧ p.2 ≠ q.1 ∧ p.2 ≠ q.2

theorem ER.mono0 {κ : Type} {K : Frag} {w w' : Wd} (h : w.Sub w') {es : List (κ × V)} {kvs : List (κ × Value)} (r : ER K w es kvs) : ER K w' es kvs := by
  induction r with
  | nil => exact .nil
  | cons a _ ih => exact .cons (a.mono0 h) ih
theorem FsR.mono0 {ω : World} {K : Frag} {w w' : Wd} (h : w.Sub w') {fs : List (String × V)} {es : List DictEntry} (r : FsR ω K w fs es) : FsR ω K w' fs es := by
  induction r with
  | nil => exact .nil
  | cons a _ ih => exact .cons (a.mono0 h) ih
theorem ER.mono {κ : Type} {K : Frag} {w w' : Wd} (h : w.Le w') {es : List (κ × V)} {kvs : List (κ × Value)} (r : ER K w es kvs) : ER K w' es kvs := r.mono0 h.sub
theorem FsR.mono {ω : World} {K : Frag} {w w' : Wd} (h : w.Le w') {fs : List (String × V)} {es : List DictEntry} (r : FsR ω K w fs es) : FsR ω K w' fs es := r.mono0 h.sub

section
variable {prog : Program} {ω : World} {K : Frag} {c : Cx} {w w' : Wd} {σ : St} {h h' : Heap} {p : Addr × Addr} {o : O}
theorem ORel.mono0 (hw : w.Sub w') (k : ∀ b x, (b = p.1 ∨ b = p.2) → h.get? b = some x → h'.get? b = some x) (r : ORel prog ω K c w h p o) : ORel prog ω K c w' h' p o := by
  cases o with
  | list lk vs =>
    obtain ⟨e, xs, n, a, b, d⟩ := r
    exact ⟨e, xs, n, k _ _ (.inl rfl) a, b.mono0 hw, d⟩
  | di lk es =>
    obtain ⟨e, ob, kvs, a, b, d, f⟩ := r
    exact ⟨e, ob, kvs, k _ _ (.inl rfl) a, b, d.mono0 hw, f⟩
  | ds lk es =>
    obtain ⟨e, ob, kvs, a, b, d, f⟩ := r
    exact ⟨e, ob, kvs, k _ _ (.inl rfl) a, b, d.mono0 hw, f⟩
  | inst cn fs =>
    obtain ⟨e, e', C, es, n, a, b, d, f, x⟩ := r
    exact ⟨e, e', C, es, n, a, k _ _ (.inl rfl) b, k _ _ (.inr rfl) d, f.mono0 hw, x⟩

theorem ORel.mono (hw : w.Le w') (k : ∀ b x, (b = p.1 ∨ b = p.2) → h.get? b = some x → h'.get? b = some x) (r : ORel prog ω K c w h p o) : ORel prog ω K c w' h' p o := r.mono0 hw.sub k

theorem SR.there (S : SR prog ω K c w σ h) {x : Addr} (q : c.Cov x) : ∃ o, h.get? x = some o := by
  rcases q with ⟨o, e⟩ | ⟨q, hq, rfl⟩
  · exact ⟨o, S.kp _ _ e⟩
  · obtain ⟨sl, e⟩ := S.kf q hq; exact ⟨_, e⟩

theorem SR.keeps (S : SR prog ω K c w σ h) (k : ∀ b o, h.get? b = some o → h'.get? b = some o) : SR prog ω K c w σ h' where
  kg x o e := k _ _ (S.kg x o e)
  kp x o e := k _ _ (S.kp x o e)
  kl x o e := k _ _ (S.kl x o e)
  kf q hq := let ⟨sl, e⟩ := S.kf q hq; ⟨sl, k _ _ e⟩
  len := S.len
  used := S.used
  obj i o e := let ⟨p, a, b⟩ := S.obj i o e; ⟨p, a, b.mono (.refl _) fun _ _ _ e => k _ _ e⟩
  out i p e := let ⟨a, b, d, f, ⟨o1, e1⟩, ⟨o2, e2⟩, x⟩ := S.out i p e; ⟨a, b, d, f, ⟨o1, k _ _ e1⟩, ⟨o2, k _ _ e2⟩, x⟩
  apart := S.apart

noncomputable def Wd.add (w : Wd) (a : Addr) (o : Obj) : Wd := { w with g := fun x => if x = a then some o else w.g x }
theorem Wd.le_add {a : Addr} {ob : Obj} (S : SR prog ω K c w σ h) (hn : h.get? a = none) : w.Le (w.add a ob) :=
  ⟨fun x o e => by
    show (if x = a then some ob else w.g x) = some o
    split
    · rename_i q; subst q; have := S.kg x o e; rw [hn] at this; cases this
    · exact e, List.prefix_refl _, rfl, fun x o q e => by
    change (if x = a then some ob else w.g x) = some o at e
    split at e
    · rename_i z; subst z; obtain ⟨o', e'⟩ := S.there (S.used x q); rw [hn] at e'; cases e'
    · exact e⟩
theorem Wd.add_get {a : Addr} {ob : Obj} : (w.add a ob).g a = some ob := by show (if a = a then _ else _) = _; simp

theorem SR.freeze {a : Addr} {ob : Obj} (S : SR prog ω K c w σ h) (hn : h.get? a = none) (k : ∀ b o, h.get? b = some o → h'.get? b = some o) (ha : h'.get? a = some ob) :
    SR prog ω K c (w.add a ob) σ h' where
  kg x o e := by
    change (if x = a then some ob else w.g x) = some o at e
    split at e
    · rename_i q; subst q; cases e; exact ha
    · exact k _ _ (S.kg x o e)
  kp x o e := k _ _ (S.kp x o e)
  kl x o e := k _ _ (S.kl x o e)
  kf q hq := let ⟨sl, e⟩ := S.kf q hq; ⟨sl, k _ _ e⟩
  len := S.len
  used := S.used
  obj i o e := let ⟨p, x, b⟩ := S.obj i o e; ⟨p, x, b.mono (Wd.le_add S hn) fun _ _ _ e => k _ _ e⟩
  out i p e := by
    obtain ⟨x, b, d, f, ⟨o1, e1⟩, ⟨o2, e2⟩, y⟩ := S.out i p e
    have n1 : p.1 ≠ a := fun q => by rw [q, hn] at e1; cases e1
    have n2 : p.2 ≠ a := fun q => by rw [q, hn] at e2; cases e2
    refine ⟨?_, ?_, d, f, ⟨o1, k _ _ e1⟩, ⟨o2, k _ _ e2⟩, y⟩
    · show (if p.1 = a then _ else _) = _; rw [if_neg n1]; exact x
    · show (if p.2 = a then _ else _) = _; rw [if_neg n2]; exact b
  apart := S.apart

noncomputable def Wd.more (w : Wd) (p : Addr × Addr) : Wd := { w with φ := w.φ ++ [p] }
theorem Wd.le_more : w.Le (w.more p) := ⟨fun _ _ e => e, List.prefix_append _ _, rfl, fun _ _ _ e => e⟩
theorem Wd.more_get : (w.more p).φ[w.φ.length]? = some p := by simp [Wd.more]

theorem SR.fresh_px (S : SR prog ω K c w σ h) {a : Addr} (hn : h.get? a = none) : c.px a = none := by
  cases e : c.px a with
  | none => rfl
  | some o => have := S.kp _ _ e; rw [hn] at this; cases this
theorem SR.fresh_lk (S : SR prog ω K c w σ h) {a : Addr} (hn : h.get? a = none) : c.lk a = none := by
  cases e : c.lk a with
  | none => rfl
  | some o => have := S.kl _ _ e; rw [hn] at this; cases this
theorem SR.fresh_g (S : SR prog ω K c w σ h) {a : Addr} (hn : h.get? a = none) : w.g a = none := by
  cases e : w.g a with
  | none => rfl
  | some o => have := S.kg _ _ e; rw [hn] at this; cases this
theorem SR.fresh_fr (S : SR prog ω K c w σ h) {a : Addr} (hn : h.get? a = none) : ∀ q ∈ c.fr, q.1 ≠ a := fun q hq e => by
  obtain ⟨sl, x⟩ := S.kf q hq
  rw [e, hn] at x; cases x

theorem SR.alloc (S : SR prog ω K c w σ h) (hn1 : h.get? p.1 = none) (hn2 : h.get? p.2 = none) (k : ∀ b o, h.get? b = some o → h'.get? b = some o) (hs : p.1 ≠ sysModules)
    (h1 : ∃ o, h'.get? p.1 = some o) (h2 : ∃ o, h'.get? p.2 = some o) (r : ORel prog ω K c (w.more p) h' p o) : SR prog ω K c (w.more p) (σ.new o) h' where
  kg x o e := k _ _ (S.kg x o e)
  kp x o e := k _ _ (S.kp x o e)
  kl x o e := k _ _ (S.kl x o e)
  kf q hq := let ⟨sl, e⟩ := S.kf q hq; ⟨sl, k _ _ e⟩
  len := by show σ.n + 1 = (w.φ ++ [p]).length; rw [S.len]; simp
  used := S.used
  obj i o' e := by
    change (if i = σ.n then some o else σ.f i) = some o' at e
    split at e
    · rename_i q; cases e; subst q; exact ⟨p, by rw [S.len]; exact Wd.more_get, r⟩
    · obtain ⟨q, x, b⟩ := S.obj i o' e; exact ⟨q, Wd.le_more.get x, b.mono Wd.le_more fun _ _ _ e => k _ _ e⟩
  out i q e := by
    change (w.φ ++ [p])[i]? = some q at e
    rw [List.getElem?_append] at e
    split at e
    · obtain ⟨x, b, d, f, ⟨o1, e1⟩, ⟨o2, e2⟩, y⟩ := S.out i q e
      exact ⟨x, b, d, f, ⟨o1, k _ _ e1⟩, ⟨o2, k _ _ e2⟩, y⟩
    · have : q = p := by
        rcases List.getElem?_eq_some_iff.mp e with ⟨hl, e⟩
        simp at hl
        simp at e; exact e.symm
      subst this
      exact ⟨S.fresh_g hn1, S.fresh_g hn2, fun q hq => ⟨S.fresh_fr hn1 q hq, S.fresh_fr hn2 q hq⟩, hs, h1, h2, S.fresh_px hn1, S.fresh_px hn2⟩
  apart i j q z hij ei ej := by
    have key : ∀ (i : Nat) (q : Addr × Addr), (w.φ ++ [p])[i]? = some q → (w.φ[i]? = some q) ∨ (i = w.φ.length ∧ q = p) := fun i q e => by
      rw [List.getElem?_append] at e
      split at e
      · exact .inl e
      · rename_i hl
        rcases List.getElem?_eq_some_iff.mp e with ⟨hl', e'⟩
        simp at hl'
        simp at e'; exact .inr ⟨by omega, e'.symm⟩
    have ne : ∀ (i : Nat) (q : Addr × Addr), w.φ[i]? = some q → q.1 ≠ p.1 ∧ q.1 ≠ p.2 ∧ q.2 ≠ p.1 ∧ q.2 ≠ p.2 := fun i q e => by
      obtain ⟨_, _, _, _, ⟨o1, e1⟩, ⟨o2, e2⟩, _⟩ := S.out i q e
      refine ⟨fun x => ?_, fun x => ?_, fun x => ?_, fun x => ?_⟩
      · rw [x, hn1] at e1; cases e1
      · rw [x, hn2] at e1; cases e1
      · rw [x, hn1] at e2; cases e2
      · rw [x, hn2] at e2; cases e2
    rcases key i q ei with a | ⟨a, rfl⟩ <;> rcases key j z ej with b | ⟨b, rfl⟩
    · exact S.apart i j q z hij a b
    · exact ne i q a
    · obtain ⟨x, y, z', u⟩ := ne j z b; exact ⟨x.symm, z'.symm, y.symm, u.symm⟩
    · omega

theorem SR.upd {i : Nat} {d : Addr} {o₀ : O} (S : SR prog ω K c w σ h) (hi : w.φ[i]? = some p) (_hg : σ.get i = some o₀) (hd : d = p.1 ∨ d = p.2) (hlk : c.lk d = none) (k : Heap.SameBut d h h')
    (hx : ∃ x, h'.get? d = some x) (r : ORel prog ω K c w h' p o) : SR prog ω K c w (σ.set i o) h' := by
  have hout := S.out i p hi
  have ng : w.g d = none := by rcases hd with e | e <;> subst e; exact hout.1; exact hout.2.1
  have hpx : c.px d = none := by rcases hd with e | e <;> subst e; exact hout.2.2.2.2.2.2.1; exact hout.2.2.2.2.2.2.2
  have nf : ∀ q ∈ c.fr, q.1 ≠ d := fun q hq => by rcases hd with e | e <;> subst e; exact (hout.2.2.1 q hq).1; exact (hout.2.2.1 q hq).2
  have kk : ∀ b x, b ≠ d → h.get? b = some x → h'.get? b = some x := fun b x hb e => (k.2 b hb).trans e
  refine ⟨fun x o e => kk x o (fun q => ?_) (S.kg x o e), fun x o e => kk x o (fun q => ?_) (S.kp x o e), fun x o e => kk x o (fun q => ?_) (S.kl x o e), fun q hq => ?_, S.len, S.used, fun j o' e => ?_, fun j q e => ?_, S.apart⟩
  · rw [q, ng] at e; cases e
  · rw [q, hpx] at e; cases e
  · rw [q, hlk] at e; cases e
  · obtain ⟨sl, e⟩ := S.kf q hq; exact ⟨sl, kk _ _ (nf q hq) e⟩
  · change (if j = i then some o else σ.f j) = some o' at e
    split at e
    · rename_i q; cases e; subst q; exact ⟨p, hi, r⟩
    · rename_i q
      obtain ⟨q', x, b⟩ := S.obj j o' e
      refine ⟨q', x, b.mono (.refl _) fun b' y hb e => kk _ _ (fun z => ?_) e⟩
      have ap := S.apart j i q' p q x hi
      rcases hd with rfl | rfl <;> rcases hb with hb | hb <;> subst z <;> first | exact ap.1 hb.symm | exact ap.2.1 hb.symm | exact ap.2.2.1 hb.symm | exact ap.2.2.2 hb.symm
  · obtain ⟨x, b, d', f, ⟨o1, e1⟩, ⟨o2, e2⟩, y⟩ := S.out j q e
    refine ⟨x, b, d', f, ?_, ?_, y⟩
    · by_cases z : q.1 = d
      · rw [z]; exact hx
      · exact ⟨o1, kk _ _ z e1⟩
    · by_cases z : q.2 = d
      · rw [z]; exact hx
      · exact ⟨o2, kk _ _ z e2⟩
end

noncomputable def Wd.mark (w : Wd) (a : Addr) : Wd := { w with na := fun x => x = a ∨ w.na x }
noncomputable def Wd.unmark (w : Wd) (f : Addr → Prop) : Wd := { w with na := f }
section
variable {prog : Program} {ω : World} {K : Frag} {c : Cx} {w w' : Wd} {σ : St} {h h' : Heap} {a : Addr} {o : Obj}
theorem Wd.sub_unmark {f : Addr → Prop} : w.Sub (w.unmark f) := ⟨fun _ _ e => e, List.prefix_refl _⟩
theorem Wd.sub_mark : w.Sub (w.mark a) := ⟨fun _ _ e => e, List.prefix_refl _⟩
theorem SR.mark (S : SR prog ω K c w σ h) (ha : c.Cov a) : SR prog ω K c (w.mark a) σ h :=
  ⟨S.kg, S.kp, S.kl, S.kf, S.len, fun x q => q.elim (fun e => e ▸ ha) (S.used x), fun i ob e => let ⟨p, x, r⟩ := S.obj i ob e; ⟨p, x, r.mono0 Wd.sub_mark fun _ _ _ q => q⟩, S.out, S.apart⟩
theorem Wd.Le.back (h : (w.mark a).Le w') : w.Le (w'.unmark w.na) := ⟨h.g, h.φ, rfl, fun x o q e => h.old x o (.inr q) e⟩
theorem Wd.Le.unfrozen (h : (w.mark a).Le w') (e : w.g a = none) : w'.g a = none := by
  cases q : w'.g a with
  | none => rfl
  | some o => have := h.old a o (.inl rfl) q; rw [show (w.mark a).g a = w.g a from rfl, e] at this; cases this
end

noncomputable def Cx.prot (c : Cx) (a : Addr) (o : Obj) : Cx := { c with px := fun x => if x = a then some o else c.px x }
section
variable {prog : Program} {ω : World} {K : Frag} {c : Cx} {w : Wd} {σ : St} {h : Heap} {a : Addr} {o : Obj}
theorem Cx.prot_get : (c.prot a o).px a = some o := by show (if a = a then _ else _) = _; simp
theorem ORel.cx {c' : Cx} {p : Addr × Addr} {ob : O} (e1 : c'.lk = c.lk) (e2 : c'.cn = c.cn) (r : ORel prog ω K c w h p ob) : ORel prog ω K c' w h p ob := by
  cases ob <;> (unfold ORel at *; rw [e1]; first | exact r | (rw [e2]; exact r))
theorem SR.protect (S : SR prog ω K c w σ h) (ha : h.get? a = some o) (hout : ∀ (i : Nat) (p : Addr × Addr), w.φ[i]? = some p → p.1 ≠ a ∧ p.2 ≠ a) : SR prog ω K (c.prot a o) w σ h where
  kg := S.kg
  kp x ob e := by
    change (if x = a then some o else c.px x) = some ob at e
    split at e
    · rename_i q; subst q; cases e; exact ha
    · exact S.kp x ob e
  kl := S.kl
  kf := S.kf
  len := S.len
  used x q := (S.used x q).imp (fun ⟨ob, e⟩ => by
    by_cases z : x = a
    · exact ⟨o, by show (if x = a then _ else _) = _; rw [if_pos z]⟩
    · exact ⟨ob, by show (if x = a then _ else _) = _; rw [if_neg z]; exact e⟩) id
  obj i ob e := let ⟨p, x, r⟩ := S.obj i ob e; ⟨p, x, r.cx rfl rfl⟩
  out i p e := by
    obtain ⟨x, b, d, f, g, l, y, z⟩ := S.out i p e
    obtain ⟨n1, n2⟩ := hout i p e
    refine ⟨x, b, d, f, g, l, ?_, ?_⟩
    · show (if p.1 = a then _ else _) = _; rw [if_neg n1]; exact y
    · show (if p.2 = a then _ else _) = _; rw [if_neg n2]; exact z
  apart := S.apart
theorem SR.unprotect {f : Addr → Prop} (S : SR prog ω K (c.prot a o) w σ h) (hn : c.px a = none ∨ c.px a = some o) (hf : ∀ x, f x → c.Cov x) : SR prog ω K c (w.unmark f) σ h where
  kg := S.kg
  kp x ob e := S.kp x ob (by
    show (if x = a then some o else c.px x) = some ob
    split
    · rename_i q; subst q; rw [e] at hn; rcases hn with q | q
      · cases q
      · exact q.symm
    · exact e)
  kl := S.kl
  kf := S.kf
  len := S.len
  used := hf
  obj i ob e := let ⟨p, x, r⟩ := S.obj i ob e; ⟨p, x, (r.cx rfl rfl).mono0 Wd.sub_unmark fun _ _ _ q => q⟩
  out i p e := by
    obtain ⟨x, b, d, f, g, l, y, z⟩ := S.out i p e
    change (if p.1 = a then some o else c.px p.1) = none at y
    change (if p.2 = a then some o else c.px p.2) = none at z
    refine ⟨x, b, d, f, g, l, ?_, ?_⟩
    · split at y
      · cases y
      · exact y
    · split at z
      · cases z
      · exact z
  apart := S.apart
end

noncomputable def ObjNs (o : Obj) (m : Str → Option Value) : Prop := ∃ es ep, o.data = .dict es ep ∧ StrKeys es ∧ ∀ name, nsFind es name = m name
theorem ObjNs.ns {o : Obj} {m : Str → Option Value} {h : Heap} {a : Addr} (x : ObjNs o m) (e : h.get? a = some o) : h.Ns a m := let ⟨es, ep, r⟩ := x; ⟨o, es, ep, e, r⟩
theorem ObjNs.slots {o : Obj} {m : Str → Option Value} (x : ObjNs o m) (sl : Array (Option Value)) : ObjNs { o with slots := sl } m := x
theorem ObjNs.of {m : Str → Option Value} {h : Heap} {a : Addr} (x : h.Ns a m) : ∃ o, h.get? a = some o ∧ ObjNs o m := let ⟨o, es, ep, e, r⟩ := x; ⟨o, e, es, ep, r⟩

structure FR (K : Frag) (c : Cx) (w : Wd) (env : Env) (vis : List (Str × Nat)) (ρ : Rho) : Prop where
  kind : env.scope.kind = .function
  glob : env.globals = mainGlobals
  bi : env.builtins = builtinsNs
  ns : ∃ o m, ((env.locals, o) ∈ c.fr ∨ c.px env.locals = some o) ∧ ObjNs o m ∧
    ∀ x k v, vis.lookup x = some k → env.scope.names.lookup x = some .local → ρ k = some v → ∃ y, m x = some y ∧ VR K w v y
  cells : ∀ x k v, vis.lookup x = some k → (env.scope.names.lookup x = some .cell ∨ env.scope.names.lookup x = some .free) → ρ k = some v →
    ∃ a o y, env.cells.lookup x = some a ∧ c.px a = some o ∧ o.data = .cell (some y) ∧ VR K w v y

theorem FR.mono {K : Frag} {c : Cx} {w w' : Wd} {env : Env} {vis : List (Str × Nat)} {ρ : Rho} (F : FR K c w env vis ρ) (h : w.Le w') : FR K c w' env vis ρ where
  kind := F.kind
  glob := F.glob
  bi := F.bi
  ns := let ⟨o, m, a, b, d⟩ := F.ns; ⟨o, m, a, b, fun x k v e1 e2 e3 => let ⟨y, p, q⟩ := d x k v e1 e2 e3; ⟨y, p, q.mono h⟩⟩
  cells x k v e1 e2 e3 := let ⟨a, o, y, p, q, r, z⟩ := F.cells x k v e1 e2 e3; ⟨a, o, y, p, q, r, z.mono h⟩

noncomputable def clsOk (K : Frag) (attrs : List String) (C : Addr) : Bool :=
  findIn K (.ref C) "__getattribute__" == some (some (.builtin "object.__getattribute__")) && findIn K (.ref C) "__getattr__" == some none && hasDictIn K C &&
  findIn K (.ref C) "__setattr__" == some (some (.builtin "object.__setattr__")) && plainOver K C && makesIn K C && attrs.all (fun a => findIn K (.ref C) (Str.ofString a) == some none)

structure Base (K : Frag) (c : Cx) (mg mb : Str → Option Value) : Prop where
  k : ∀ a o, K.lookup a = some o → c.px a = some o
  g : ∃ o, c.px mainGlobals = some o ∧ ObjNs o mg
  b : ∃ o, c.px builtinsNs = some o ∧ ObjNs o mb
  bi : ∀ x : Str, x ≠ "__name__" → mb x = bootBuiltins x
  nolim : ∃ o mc, c.px cStatics = some o ∧ ObjNs o mc ∧ mc "sys.recursionlimit" = none
  cls : ∀ x ∈ c.cn, ∃ C, clsAt K x = some C ∧ clsOk K c.an C = true

section
variable {prog : Program} {ω : World} {K : Frag} {c : Cx} {w w' : Wd} {σ : St} {h h' : Heap} {mg mb : Str → Option Value}
theorem Base.kin (B : Base K c mg mb) (S : SR prog ω K c w σ h) : K.In h := fun a o e => S.kp _ _ (B.k a o e)
theorem Base.gns (B : Base K c mg mb) (S : SR prog ω K c w σ h) : h.Ns mainGlobals mg := let ⟨_, e, x⟩ := B.g; x.ns (S.kp _ _ e)
theorem Base.bns (B : Base K c mg mb) (S : SR prog ω K c w σ h) : h.Ns builtinsNs mb := let ⟨_, e, x⟩ := B.b; x.ns (S.kp _ _ e)
theorem Base.lim (B : Base K c mg mb) (S : SR prog ω K c w σ h) : h.NoLimit := let ⟨_, mc, e, x, y⟩ := B.nolim; ⟨mc, x.ns (S.kp _ _ e), y⟩
theorem FR.locals {env : Env} {vis : List (Str × Nat)} {ρ : Rho} (F : FR K c w env vis ρ) (S : SR prog ω K c w σ h) : ∃ m, h.Ns env.locals m ∧
    ∀ x k v, vis.lookup x = some k → env.scope.names.lookup x = some .local → ρ k = some v → ∃ y, m x = some y ∧ VR K w v y := by
  obtain ⟨o, m, a, b, d⟩ := F.ns
  rcases a with a | a
  · obtain ⟨sl, e⟩ := S.kf _ a; exact ⟨m, (b.slots sl).ns e, d⟩
  · exact ⟨m, b.ns (S.kp _ _ a), d⟩
end

structure Fits (cx : Cxt) (c : Cx) (env : Env) : Prop where
  names : env.scope.names = cx.scope.names
  cls : cx.cls = c.cn
  attrs : cx.attrs = c.an
  cells : ∀ x, cx.scope.names.lookup x = some .cell → (env.cells.lookup x).isSome = true

noncomputable def Same (s s' : Shared) : Prop := ∃ h tk, s' = { s with heap := h, toks := tk }
theorem Same.refl (s : Shared) : Same s s := ⟨s.heap, s.toks, rfl⟩
theorem Same.trans {a b d : Shared} (h : Same a b) (k : Same b d) : Same a d := by
  obtain ⟨h1, t1, rfl⟩ := h
  obtain ⟨h2, t2, rfl⟩ := k
  exact ⟨h2, t2, rfl⟩
theorem Same.of (s : Shared) (h : Heap) (t : Nat) : Same s { s with heap := h, toks := t } := ⟨h, t, rfl⟩
theorem Same.ofH (s : Shared) (h : Heap) : Same s { s with heap := h } := ⟨h, s.toks, rfl⟩
theorem Same.ofT (s : Shared) (t : Nat) : Same s { s with toks := t } := ⟨s.heap, t, rfl⟩
end Lw
set_option autoImplicit false
namespace Lw
open PySem PySem.W PySem.Calls PyProof.Rows

noncomputable def FrsOK : List Env → List (Addr × Obj) → Prop
  | [], [] => True
  | env :: es, p :: ps => (env.frame = some p.1 ∧ env.scope.kind = .function ∧ ∃ es ep, p.2.data = .dict es ep) ∧ FrsOK es ps
  | _, _ => False
structure AOK (A : Around) (n : Nat) (hd : Bool) (c : Cx) (envs : List Env) : Prop where
  handled : hd = false → A.handled = none
  depth : A.depth + 4 * n + 4 < 1000
  units : A.units + 100 * n + 200 < 9900
  frames : A.frames = some envs
  frs : FrsOK envs c.fr

noncomputable def XP (prog : Program) (ω : World) (K : Frag) (c : Cx) (w : Wd) (σ' : St) (envs : List Env) (x : String) (s : Shared) (e : Value) (s' : Shared) : Prop :=
  Same s s' ∧ ∃ (ea C : Addr) (a0 : Value) (B : Heap) (w' : Wd), e = .ref ea ∧ clsAt K x = some C ∧ w.Le w' ∧ SR prog ω K c w' σ' s'.heap ∧ Heap.FlyingW B envs ea (.ref C) a0 s'.heap ∧
    (∀ b o, w'.g b = some o → B.get? b = some o) ∧ (∀ b o, c.px b = some o → B.get? b = some o) ∧ (∀ b o, c.lk b = some o → B.get? b = some o) ∧
    (∀ (i : Nat) (p : Addr × Addr), w'.φ[i]? = some p → ∀ o, (s'.heap.get? p.1 = some o → B.get? p.1 = some o) ∧ (s'.heap.get? p.2 = some o → B.get? p.2 = some o))

noncomputable def QV (prog : Program) (ω : World) (K : Frag) (c : Cx) (w : Wd) (s : Shared) (r : Res V) (σ' : St) : Value → Shared → Prop := fun v s' =>
  Same s s' ∧ ∃ w' a, r = .ok a ∧ w.Le w' ∧ SR prog ω K c w' σ' s'.heap ∧ VR K w' a v
noncomputable def QX {α : Type} (prog : Program) (ω : World) (K : Frag) (c : Cx) (w : Wd) (envs : List Env) (s : Shared) (r : Res α) (σ' : St) : Value → Shared → Prop := fun e s' =>
  ∃ x, r = .exc x ∧ XP prog ω K c w σ' envs x s e s'

theorem XP.mono {prog : Program} {ω : World} {K : Frag} {c : Cx} {w w₁ : Wd} {σ' : St} {envs : List Env} {x : String} {s s₁ s' : Shared} {e : Value}
    (hs : Same s s₁) (hw : w.Le w₁) (h : XP prog ω K c w₁ σ' envs x s₁ e s') : XP prog ω K c w σ' envs x s e s' := by
  obtain ⟨a, ea, C, a0, B, w', e1, e2, e3, r⟩ := h
  exact ⟨hs.trans a, ea, C, a0, B, w', e1, e2, hw.trans e3, r⟩

section
variable (prog : Program) (ω : World) (K : Frag) (mg mb : Str → Option Value) (P : Prog) (cl : Cl) (n : Nat)

noncomputable def SimE (cx : Cxt) (ir : E) (e : Expr) : Prop :=
  ∀ (hd : Bool) (c : Cx) (w : Wd) (ρ : Rho) (σ : St) (env : Env) (envs : List Env) (A : Around) (s : Shared) (r : Res V) (σ' : St),
    ev P cl hd ir ρ σ = some (r, σ') → Base K c mg mb → SR prog ω K c w σ s.heap → FR K c w env cx.vis ρ → Fits cx c env → AOK A n hd c envs →
    wpAny (model prog ω) A (eval e env) (QV prog ω K c w s r σ') (QX prog ω K c w envs s r σ') s

noncomputable def SimT (cx : Cxt) (ir : E) (e : Expr) : Prop :=
  ∀ (hd : Bool) (c : Cx) (w : Wd) (ρ : Rho) (σ : St) (env : Env) (envs : List Env) (A : Around) (s : Shared) (r : Res V) (σ' : St),
    ev P cl hd ir ρ σ = some (r, σ') → (∀ a, r = .ok a → ∃ t, truthV σ' a = some t) → Base K c mg mb → SR prog ω K c w σ s.heap → FR K c w env cx.vis ρ → Fits cx c env → AOK A n hd c envs →
    wpAny (model prog ω) A (isTrue e env (eval e env)) (fun t s' => Same s s' ∧ ∃ w' a, r = .ok a ∧ truthV σ' a = some t ∧ w.Le w' ∧ SR prog ω K c w' σ' s'.heap) (QX prog ω K c w envs s r σ') s

structure Sim (cx : Cxt) (ir : E) (e : Expr) : Prop where
  v : SimE prog ω K mg mb P cl n cx ir e
  t : SimT prog ω K mg mb P cl n cx ir e
end

section
variable {prog : Program} {ω : World} {K : Frag} {mg mb : Str → Option Value} {P : Prog} {cl : Cl} {n : Nat} {cx : Cxt}
  {hd : Bool} {c : Cx} {w : Wd} {ρ : Rho} {σ σ' : St} {env : Env} {envs : List Env} {A : Around} {s : Shared}

theorem SimE.bind {α : Type} {a : E} {e : Expr} {k : V → St → Option (Res α × St)} {r : Res α} {R : Value → Shared → Prop} (ha : SimE prog ω K mg mb P cl n cx a e)
    (hev : bindM (ev P cl hd a ρ σ) k = some (r, σ')) (B : Base K c mg mb) (S : SR prog ω K c w σ s.heap) (F : FR K c w env cx.vis ρ) (hn : Fits cx c env) (hA : AOK A n hd c envs)
    (hk : ∀ x xv σ₁ w₁ s₁, k x σ₁ = some (r, σ') → Same s s₁ → w.Le w₁ → SR prog ω K c w₁ σ₁ s₁.heap → VR K w₁ x xv → R xv s₁) :
    wpAny (model prog ω) A (eval e env) R (QX prog ω K c w envs s r σ') s := by
  unfold bindM at hev
  split at hev
  · cases hev
  · rename_i x σ₁ h1
    cases hev
    refine wpAny_mono (ha hd c w ρ σ env envs A s _ _ h1 B S F hn hA) (fun v s₁ q => ?_) fun e s₁ q => ?_
    · obtain ⟨_, _, _, q, _⟩ := q; cases q
    · obtain ⟨y, q, h⟩ := q; cases q; exact ⟨_, rfl, h⟩
  · rename_i x σ₁ h1
    refine wpAny_mono (ha hd c w ρ σ env envs A s _ _ h1 B S F hn hA) (fun v s₁ q => ?_) fun e s₁ q => ?_
    · obtain ⟨hs, w₁, y, q, hw, S₁, hv⟩ := q; cases q
      exact hk _ _ _ _ _ hev hs hw S₁ hv
    · obtain ⟨y, q, _⟩ := q; cases q

theorem QX.mono {α : Type} {w₁ : Wd} {s₁ : Shared} {r : Res α} {e : Value} {s' : Shared} (hs : Same s s₁) (hw : w.Le w₁) (h : QX prog ω K c w₁ envs s₁ r σ' e s') : QX prog ω K c w envs s r σ' e s' := by
  obtain ⟨x, q, h⟩ := h; exact ⟨x, q, h.mono hs hw⟩
theorem SimE.bind' {α : Type} {a : E} {e : Expr} {k : V → St → Option (Res α × St)} {r : Res α} {R : Value → Shared → Prop} {w₀ : Wd} {s₀ : Shared} (ha : SimE prog ω K mg mb P cl n cx a e)
    (hev : bindM (ev P cl hd a ρ σ) k = some (r, σ')) (B : Base K c mg mb) (S : SR prog ω K c w σ s.heap) (F : FR K c w env cx.vis ρ) (hn : Fits cx c env) (hA : AOK A n hd c envs)
    (hs₀ : Same s₀ s) (hw₀ : w₀.Le w)
    (hk : ∀ x xv σ₁ w₁ s₁, k x σ₁ = some (r, σ') → Same s₀ s₁ → w₀.Le w₁ → w.Le w₁ → SR prog ω K c w₁ σ₁ s₁.heap → VR K w₁ x xv → R xv s₁) :
    wpAny (model prog ω) A (eval e env) R (QX prog ω K c w₀ envs s₀ r σ') s :=
  wpAny_mono (ha.bind hev B S F hn hA fun x xv σ₁ w₁ s₁ h1 h2 h3 h4 h5 => hk x xv σ₁ w₁ s₁ h1 (hs₀.trans h2) (hw₀.trans h3) h3 h4 h5) (fun _ _ q => q) fun _ _ q => q.mono hs₀ hw₀

theorem truthV_sound {a : V} {v : Value} {t : Bool} {E : Value → Shared → Prop} {Q : Bool → Shared → Prop} (hv : VR K w a v) (ht : truthV σ a = some t) (h : Q t s) : wpAny (model prog ω) A (truthy v) Q E s := by
  cases hv <;> simp only [truthV, Option.some.injEq, reduceCtorEq] at ht <;> subst ht
  · exact truthy_none h
  · exact wpAny_truthy_bool h
  · refine PyProof.Rows.truthy_int ?_
    rename_i i t
    have : (i != 0) = decide (i ≠ 0) := by by_cases q : i = 0 <;> simp [q]
    rw [this]; exact h

theorem SimE.simT {a : E} {e : Expr} (ha : SimE prog ω K mg mb P cl n cx a e) (he : ∀ env whole, isTrue e env whole = (do let v ← whole; standAt e.pos; holding [v] (truthy v))) : SimT prog ω K mg mb P cl n cx a e := by
  intro hd c w ρ σ env envs A s r σ' hev ht B S F hn hA
  refine wpAny_isTrue_value (wpAny_mono (ha hd c w ρ σ env envs A s r σ' hev B S F hn hA) (fun v s₁ q => ?_) fun e s₁ q => q) (he _ _)
  obtain ⟨hs, w₁, y, q, hw, S₁, hv⟩ := q
  obtain ⟨t, ht⟩ := ht y q
  exact truthV_sound hv ht ⟨hs, w₁, y, q, ht, hw, S₁⟩

theorem sim_cNone {k : Nat} {pos : Pos} : Sim prog ω K mg mb P cl n cx .cNone (.Constant .none k pos) := by
  have h : SimE prog ω K mg mb P cl n cx .cNone (.Constant .none k pos) := by
    intro hd c w ρ σ env envs A s r σ' hev B S F hn hA
    simp only [e_cNone, Option.some.injEq, Prod.mk.injEq] at hev
    obtain ⟨rfl, rfl⟩ := hev
    exact wpAny_Constant_none ⟨.refl _, w, _, rfl, .refl _, S, .none⟩
  exact ⟨h, h.simT fun _ _ => rfl⟩
theorem sim_cBool {b : Bool} {k : Nat} {pos : Pos} : Sim prog ω K mg mb P cl n cx (.cBool b) (.Constant (.bool b) k pos) := by
  have h : SimE prog ω K mg mb P cl n cx (.cBool b) (.Constant (.bool b) k pos) := by
    intro hd c w ρ σ env envs A s r σ' hev B S F hn hA
    simp only [e_cBool, Option.some.injEq, Prod.mk.injEq] at hev
    obtain ⟨rfl, rfl⟩ := hev
    exact wpAny_Constant_bool ⟨.refl _, w, _, rfl, .refl _, S, .bool _⟩
  exact ⟨h, h.simT fun _ _ => rfl⟩
theorem sim_cInt {i : Int} {k : Nat} {pos : Pos} : Sim prog ω K mg mb P cl n cx (.cInt i) (.Constant (.int i) k pos) := by
  have h : SimE prog ω K mg mb P cl n cx (.cInt i) (.Constant (.int i) k pos) := by
    intro hd c w ρ σ env envs A s r σ' hev B S F hn hA
    simp only [e_cInt, Option.some.injEq, Prod.mk.injEq] at hev
    obtain ⟨rfl, rfl⟩ := hev
    exact wpAny_Constant_int ⟨.ofT _ _, w, _, rfl, .refl _, S, .int _ _⟩
  exact ⟨h, h.simT fun _ _ => rfl⟩
theorem sim_cStr {x : Str} {k : Nat} {pos : Pos} (hx : sOk x = true) : Sim prog ω K mg mb P cl n cx (.cStr x) (.Constant (.str x) k pos) := by
  have h : SimE prog ω K mg mb P cl n cx (.cStr x) (.Constant (.str x) k pos) := by
    intro hd c w ρ σ env envs A s r σ' hev B S F hn hA
    simp only [e_cStr, Option.some.injEq, Prod.mk.injEq] at hev
    obtain ⟨rfl, rfl⟩ := hev
    exact wpAny_Constant_str ⟨.ofT _ _, w, _, rfl, .refl _, S, .str _ _ hx⟩
  exact ⟨h, h.simT fun _ _ => rfl⟩

theorem sim_var {k : Nat} {x : Str} {pos : Pos} (hvis : cx.vis.lookup x = some k) (hl : cx.isLocal x = true) (hdb : (x == ("__debug__" : Str)) = false) (hcd : (x == ("__classdict__" : Str)) = false) :
    Sim prog ω K mg mb P cl n cx (.var k) (.Name x pos) := by
  have h : SimE prog ω K mg mb P cl n cx (.var k) (.Name x pos) := by
    intro hd c w ρ σ env envs A s r σ' hev B S F hn hA
    simp only [e_var] at hev
    split at hev
    · rename_i v hv
      simp only [Option.some.injEq, Prod.mk.injEq] at hev
      obtain ⟨rfl, rfl⟩ := hev
      refine wpAny_Name ?_ hdb
      unfold Cxt.isLocal at hl
      rw [← hn.names] at hl
      split at hl
      · rename_i hk
        obtain ⟨m, hns, hm⟩ := F.locals S
        obtain ⟨y, e, hy⟩ := hm x k v hvis hk hv
        exact wpAny_loadName_local F.kind hk hns e ⟨.refl _, w, _, rfl, .refl _, S, hy⟩
      · rename_i hk
        obtain ⟨a, o, y, e1, e2, e3, hy⟩ := F.cells x k v hvis (.inl hk) hv
        exact wpAny_loadName_cell F.kind hk e1 ⟨o, S.kp _ _ e2, e3⟩ ⟨.refl _, w, _, rfl, .refl _, S, hy⟩
      · rename_i hk
        obtain ⟨a, o, y, e1, e2, e3, hy⟩ := F.cells x k v hvis (.inr hk) hv
        exact wpAny_loadName_free F.kind hk e1 ⟨o, S.kp _ _ e2, e3⟩ ⟨.refl _, w, _, rfl, .refl _, S, hy⟩ hcd
      · cases hl
    · cases hev
  exact ⟨h, h.simT fun _ _ => rfl⟩

theorem glob_name {x : Str} {pos : Pos} {v : Value} {E : Value → Shared → Prop} {Q : Value → Shared → Prop} (B : Base K c mg mb) (S : SR prog ω K c w σ s.heap) (F : FR K c w env cx.vis ρ) (hn : Fits cx c env)
    (hg : cx.isGlob x = true) (e : nsIn K mainGlobals x = some (some v)) (h : Q v s) : wpAny (model prog ω) A (eval (.Name x pos) env) Q E s := by
  unfold Cxt.isGlob at hg
  simp only [Bool.and_eq_true, beq_iff_eq, Bool.not_eq_true'] at hg
  rw [← hn.names] at hg
  refine Name_function_global F.kind hg.1 (loadGlobal_global (by rw [F.glob]; exact B.gns S) (mg_of (B.kin S) (B.gns S) e) h) hg.2
theorem glob_bi {x : Str} {pos : Pos} {v : Value} {E : Value → Shared → Prop} {Q : Value → Shared → Prop} (B : Base K c mg mb) (S : SR prog ω K c w σ s.heap) (F : FR K c w env cx.vis ρ) (hn : Fits cx c env)
    (hg : cx.isGlob x = true) (e : nsIn K mainGlobals x = some none) (hb : bootBuiltins x = some v) (hx : x ≠ "__name__") (h : Q v s) : wpAny (model prog ω) A (eval (.Name x pos) env) Q E s := by
  unfold Cxt.isGlob at hg
  simp only [Bool.and_eq_true, beq_iff_eq, Bool.not_eq_true'] at hg
  rw [← hn.names] at hg
  exact Name_function_global F.kind hg.1 (loadGlobal_builtin (by rw [F.glob]; exact B.gns S) (mg_none_of (B.kin S) (B.gns S) e) (by rw [F.bi]; exact B.bns S) ((B.bi x hx).trans hb) h) hg.2

theorem bits_small {a : Int} (h : a.natAbs < 2 ^ 60) : Builtin.Int.intBits a ≤ 64 := by
  unfold Builtin.Int.intBits
  split
  · omega
  · rename_i h0
    have h0' : a.natAbs ≠ 0 := by
      intro q; apply h0; simp at q; simp [q]
    have : a.natAbs.log2 < 60 := (Nat.log2_lt h0').mpr h
    omega

theorem sOk_iff {a : Str} : sOk a = true ↔ PyData.strOk a = true ∧ a.cps.size ≤ lim := by unfold sOk; simp
theorem strOk_append {a b : Str} (ha : PyData.strOk a = true) (hb : PyData.strOk b = true) : PyData.strOk (a ++ b) = true := by
  unfold PyData.strOk at *
  rw [Str.cps_append, Array.all_append, ha, hb]; rfl

theorem get_size (h : Heap) : h.get? h.objs.size = none := by
  cases e : h.get? h.objs.size with
  | none => rfl
  | some o => exact absurd (Heap.lt_size e) (Nat.lt_irrefl _)
theorem push_keeps (h : Heap) (o : Obj) : ∀ b x, h.get? b = some x → (h.push o).get? b = some x := fun _ _ e => Heap.get?_push_of_some _ e
theorem add_two {l b : Addr} {vs ws : Array Value} {E : Value → Shared → Prop} {Q : Value → Shared → Prop} (hl : s.heap.IsList l vs) (hb : s.heap.IsList b ws)
    (h : Q (.ref s.heap.objs.size) { s with heap := s.heap.push { cls := .type "list", data := .seq (vs ++ ws) } }) (hsz : vs.size + ws.size ≤ sizeLine) :
    wpAny (model prog ω) A (binaryOp .Add (.ref l) (.ref b)) Q E s := by
  obtain ⟨⟨cls, dd, data, sl⟩, ho, hc, n, hd⟩ := id hl
  obtain ⟨⟨cls2, dd2, data2, sl2⟩, ho2, hc2, n2, hd2⟩ := id hb
  simp only at hc hd hc2 hd2
  subst hc hd hc2 hd2
  exact concat_meets ⟨_, ho, rfl⟩ ⟨_, ho2, rfl⟩ noFill_list_add seq_list_add PySem.F.slot_list_add PySem.F.entry_list_add (PySem.F.args_list_add_2 _ _) (list_addW l b vs ws n n2 dd dd2 sl sl2 hsz) ⟨ho, ho2, h⟩

theorem int2_inv {a b z : V} {k : Int → Int → Option V} (h : int2 a b k = some z) : ∃ i j, a = .int i ∧ b = .int j ∧ k i j = some z := by
  unfold int2 at h
  split at h
  · split at h
    · exact ⟨_, _, rfl, rfl, h⟩
    · cases h
  · cases h
theorem VR.intv {i : Int} {x : Value} (h : VR K w (.int i) x) : ∃ t, x = .int i t := by cases h; exact ⟨_, rfl⟩
theorem VR.strv {i : Str} {x : Value} (h : VR K w (.str i) x) : ∃ t, x = .str i t ∧ sOk i = true := by cases h; exact ⟨_, rfl, ‹_›⟩
theorem if_inv {p : Prop} [Decidable p] {α : Type} {x : Option α} {z : α} (h : (if p then x else none) = some z) : p ∧ x = some z := by
  split at h
  · exact ⟨‹_›, h⟩
  · cases h

theorem addV_sound {a b z : V} {x y : Value} {E : Value → Shared → Prop} {Q : Value → Shared → Prop} (S : SR prog ω K c w σ s.heap) (ha : VR K w a x) (hb : VR K w b y) (hz : addV a b = some z)
    (h : ∀ v w' h' tk, w.Le w' → SR prog ω K c w' σ h' → VR K w' z v → Q v { s with heap := h', toks := tk }) : wpAny (model prog ω) A (binaryOp .Add x y) Q E s := by
  cases ha with
  | int i t =>
    cases hb with
    | int j u => cases hz; exact wpAny_add_int (h _ w _ _ (.refl _) S (.int _ _))
    | _ => cases hz
  | str a t ka =>
    cases hb with
    | none => cases hz
    | bool => cases hz
    | int => cases hz
    | tup => cases hz
    | lst => cases hz
    | rng => cases hz
    | ref => cases hz
    | exc => cases hz
    | str b u kb =>
    obtain ⟨hl, hz⟩ := if_inv hz
    cases hz
    refine add_str (fun t' tk => h _ w _ _ (.refl _) S (.str _ _ (sOk_iff.mpr ⟨strOk_append (sOk_iff.mp ka).1 (sOk_iff.mp kb).1, ?_⟩))) ?_
    · rw [Str.cps_append, Array.size_append]; exact hl
    · unfold lim at hl; unfold sizeLine; omega
  | @lst vs a o xs n e1 e2 e3 e4 e5 =>
    cases hb with
    | none => cases hz
    | bool => cases hz
    | int => cases hz
    | str => cases hz
    | tup => cases hz
    | rng => cases hz
    | ref => cases hz
    | exc => cases hz
    | @lst us b o' ys m f1 f2 f3 f4 f5 =>
      obtain ⟨hl, hz⟩ := if_inv hz
      cases hz
      have l1 := e4.length
      have l2 := f4.length
      have hsz : xs.size + ys.size ≤ sizeLine := by
        simp only [Array.length_toList] at l1 l2
        unfold lim at hl; unfold sizeLine; omega
      refine add_two ⟨_, S.kg _ _ e1, e2, _, e3⟩ ⟨_, S.kg _ _ f1, f2, _, f3⟩ ?_ hsz
      have hn0 := get_size s.heap
      refine h _ (w.add s.heap.objs.size { cls := .type "list", data := .seq (xs ++ ys) }) _ s.toks (Wd.le_add S hn0) (S.freeze hn0 (fun b o e => Heap.get?_push_of_some _ e) (Heap.get?_push_size _ rfl)) ?_
      refine .lst Wd.add_get rfl rfl ?_ (by simpa using hl)
      rw [Array.toList_append]
      exact (e4.append f4).mono (Wd.le_add S hn0)
  | none => cases hz
  | bool => cases hz
  | tup => cases hz
  | rng => cases hz
  | ref => cases hz
  | exc => cases hz

theorem binV_sound {op : BOp} {a b z : V} {x y : Value} {E : Value → Shared → Prop} {Q : Value → Shared → Prop} (S : SR prog ω K c w σ s.heap) (ha : VR K w a x) (hb : VR K w b y) (hz : binV op a b = some z)
    (h : ∀ v w' h' tk, w.Le w' → SR prog ω K c w' σ h' → VR K w' z v → Q v { s with heap := h', toks := tk }) : wpAny (model prog ω) A (binaryOp (bopOf op) x y) Q E s := by
  cases op with
  | add => exact addV_sound S ha hb hz h
  | sub =>
    obtain ⟨i, j, rfl, rfl, hz⟩ := int2_inv hz
    obtain ⟨t, rfl⟩ := ha.intv
    obtain ⟨u, rfl⟩ := hb.intv
    cases hz
    exact PyProof.Rows.sub_int (h _ w _ _ (.refl _) S (.int _ _))
  | mul =>
    obtain ⟨i, j, rfl, rfl, hz⟩ := int2_inv hz
    obtain ⟨t, rfl⟩ := ha.intv
    obtain ⟨u, rfl⟩ := hb.intv
    obtain ⟨hl, hz⟩ := if_inv hz
    cases hz
    exact PyProof.Rows.mul_int (h _ w _ _ (.refl _) S (.int _ _)) (IntMulOk.of_left (bits_small hl.1))
  | fdiv =>
    obtain ⟨a, b, rfl, rfl, hz⟩ := int2_inv hz
    obtain ⟨t, rfl⟩ := ha.intv
    obtain ⟨u, rfl⟩ := hb.intv
    obtain ⟨hl, hz⟩ := if_inv hz
    cases hz
    refine PyProof.Rows.floordiv_int (by omega) ?_ (.inl (PyProof.noPylong_of_log2 ?_))
    · rw [Int.fdiv_eq_ediv_of_nonneg _ (by omega)]; exact h _ w _ _ (.refl _) S (.int _ _)
    · have h0 : b.natAbs ≠ 0 := by omega
      have : b.natAbs.log2 < 60 := (Nat.log2_lt h0).mpr (by omega)
      omega
  | mod =>
    obtain ⟨a, b, rfl, rfl, hz⟩ := int2_inv hz
    obtain ⟨t, rfl⟩ := ha.intv
    obtain ⟨u, rfl⟩ := hb.intv
    obtain ⟨hl, hz⟩ := if_inv hz
    cases hz
    refine PyProof.Rows.mod_int' (by omega) ?_
    rw [Int.fmod_eq_emod_of_nonneg _ (by omega)]; exact h _ w _ _ (.refl _) S (.int _ _)
  | pow =>
    obtain ⟨a, b, rfl, rfl, hz⟩ := int2_inv hz
    obtain ⟨t, rfl⟩ := ha.intv
    obtain ⟨u, rfl⟩ := hb.intv
    obtain ⟨hl, hz⟩ := if_inv hz
    cases hz
    obtain ⟨rfl, h1, h2⟩ := hl
    exact PyProof.Rows.pow_int_small h1 (by omega) (by decide) (h _ w _ _ (.refl _) S (.int _ _))

theorem sim_bin {op : BOp} {a b : E} {l r : Expr} {pos : Pos} (ha : Sim prog ω K mg mb P cl n cx a l) (hb : Sim prog ω K mg mb P cl n cx b r) : Sim prog ω K mg mb P cl n cx (.bin op a b) (.BinOp l (bopOf op) r pos) := by
  have h : SimE prog ω K mg mb P cl n cx (.bin op a b) (.BinOp l (bopOf op) r pos) := by
    intro hd c w ρ σ env envs A s r σ' hev B S F hn hA
    rw [e_bin] at hev
    refine wpAny_BinOp (ha.v.bind hev B S F hn hA fun x xv σ₁ w₁ s₁ hk hs hw S₁ hx => ?_)
    refine hb.v.bind' hk B S₁ (F.mono hw) hn hA hs hw fun y yv σ₂ w₂ s₂ hk hs₂ hw₂ hw12 S₂ hy => ?_
    split at hk
    · rename_i z hz
      simp only [Option.some.injEq, Prod.mk.injEq] at hk
      obtain ⟨rfl, rfl⟩ := hk
      refine binV_sound S₂ (hx.mono hw12) hy hz fun v w' h' tk hw' S' hv => ?_
      exact ⟨hs₂.trans (.of _ _ _), w', _, rfl, hw₂.trans hw', S', hv⟩
    · cases hk
  exact ⟨h, h.simT fun _ _ => rfl⟩
end
end Lw
set_option autoImplicit false
namespace Lw
open PySem PySem.W PySem.Calls PyProof.Rows

theorem fm_zip {f : Str → Option Value} : ∀ (names : List Str) (k : Nat) (g : Str × Nat → Option Value) (ys : List Value), (∀ p ∈ names.zipIdx k, f p.1 = g p) → mapO g (names.zipIdx k) = some ys →
    names.filterMap (fun n => (f n).map (n, ·)) = names.zip ys ∧ names.length = ys.length
  | [], k, g, ys, _, h => by simp [mapO] at h; subst h; exact ⟨rfl, rfl⟩
  | n :: r, k, g, ys, he, h => by
    simp only [List.zipIdx_cons, mapO] at h
    split at h
    · rename_i b bs h1 h2
      cases h
      have e := he (n, k) (by simp)
      obtain ⟨i1, i2⟩ := fm_zip r (k + 1) g bs (fun p hp => he p (by simp [List.zipIdx_cons, hp])) h2
      have e' : f n = some b := e.trans h1
      refine ⟨?_, by simp [i2]⟩
      simp only [List.filterMap_cons, e', Option.map_some, List.zip_cons_cons, i1]
    · cases h

theorem lk_lookup {α : Type} (kw : List (Str × α)) (n : Str) : kw.lookup n = lk kw n := by
  induction kw with
  | nil => rfl
  | cons p r ih =>
    obtain ⟨x, y⟩ := p
    by_cases q : n = x
    · subst q; simp [lk]
    · have : (n == x) = false := by simpa using q
      have q' : ¬ x = n := fun e => q e.symm
      rw [List.lookup_cons, this, ih]
      simp [lk, q']

theorem zip_lookup {α : Type} : ∀ (names : List Str) (xs : List α) (j : Nat) (n : Str), names.Nodup → names[j]? = some n → (names.zip xs).lookup n = xs[j]?
  | [], _, _, _, _, h => by simp at h
  | m :: r, [], j, n, _, _ => by simp
  | m :: r, x :: xs, 0, n, _, h => by simp at h; subst h; simp
  | m :: r, x :: xs, j + 1, n, hnd, h => by
    have h' : r[j]? = some n := by simpa using h
    have hm : n ∈ r := List.mem_of_getElem? h'
    have hne : n ≠ m := fun e => (List.nodup_cons.mp hnd).1 (e ▸ hm)
    have : (n == m) = false := by simpa using hne
    rw [List.zip_cons_cons, List.lookup_cons, this]
    simpa using zip_lookup r xs j n (List.nodup_cons.mp hnd).2 h'
theorem zip_lookup_none {α : Type} : ∀ (names : List Str) (xs : List α) (n : Str), n ∉ names → (names.zip xs).lookup n = none
  | [], _, _, _ => by simp
  | m :: r, [], n, _ => by simp
  | m :: r, x :: xs, n, h => by
    have : (n == m) = false := by simp at h; simpa using h.1
    rw [List.zip_cons_cons, List.lookup_cons, this]
    exact zip_lookup_none r xs n (by simp at h; exact h.2)

theorem mapO_some {α β : Type} {g : α → Option β} : ∀ {l : List α} {ys : List β}, mapO g l = some ys → ∀ a ∈ l, (g a).isSome = true
  | [], _, _, a, h => by simp at h
  | b :: r, ys, h, a, ha => by
    simp only [mapO] at h
    split at h
    · rename_i x xs h1 h2
      rcases List.mem_cons.mp ha with rfl | ha
      · rw [h1]; rfl
      · exact mapO_some h2 a ha
    · cases h

theorem bindArgs_to {s : Shared} {fd : FuncData} {names : List Str} {xs ys ds : List Value} {kw : List (Str × Value)} (h1 : fd.params.posonlyargs = []) (h2 : fd.params.kwonlyargs = []) (h3 : fd.params.vararg = none) (h4 : fd.params.kwarg = none)
    (hnames : fd.params.args.map (·.arg) = names) (hnd : names.Nodup) (hds : ds.length ≤ names.length)
    (hdef : ∀ (M : Model) (A : Around) (E : Value → Shared → Prop) (Q : Option (Array Value) → Shared → Prop), (∀ r : Option (Array Value), (r.getD #[]).toList = ds → Q r s) → wpAny M A (seqItems? fd.defaults) Q E s)
    (hkw : ∀ p ∈ kw, p.1 ∈ names.drop xs.length) (hknd : (kw.map (·.1)).Nodup)
    (hb : bindP names xs kw (dfls names.length ds) = some ys) : BindsTo s fd ⟨xs, kw⟩ (names.zip ys) := by
  intro M A E Q hQ
  unfold bindP at hb
  split at hb
  rotate_left
  · cases hb
  rename_i hlen
  unfold bindArgs
  simp only [h1, h2, h3, h4, List.map_nil, List.nil_append, List.append_nil, Option.isSome_none, Bool.false_eq_true, if_false, List.forIn_nil, Option.isNone_none, Bool.and_true, hnames]
  have kwin : ∀ p ∈ kw, p.1 ∈ names := fun p hp => List.mem_of_mem_drop (hkw p hp)
  have zipn : ∀ p ∈ kw, (names.zip xs).lookup p.1 = none := fun p hp => by
    obtain ⟨j, hj⟩ := List.mem_iff_getElem?.mp (hkw p hp)
    rw [List.getElem?_drop] at hj
    rw [zip_lookup names xs _ p.1 hnd hj]
    exact List.getElem?_eq_none (by omega)
  refine wpAny_bind (wpAny_forIn_list _ (fun (rest : List (Str × Value)) (b : List (Str × Value) × List (Str × Value)) s1 => s1 = s ∧ ∃ done, kw = done ++ rest ∧ b.1 = names.zip xs ++ done) _ ?_ ?_ kw _ ⟨rfl, [], rfl, by simp⟩)
  · rintro ⟨k, v⟩ rest ⟨b1, b2⟩ s1 ⟨rfl, done, hdone, hb1⟩
    have hmem : (k, v) ∈ kw := by rw [hdone]; simp
    have hin : (names.contains k || ([] : List Str).contains k) = true := by
      have := kwin _ hmem
      simp; exact this
    have hno : (b1.lookup k).isSome = false := by
      have hb1' : b1 = names.zip xs ++ done := hb1
      rw [hb1', List.lookup_append, zipn _ hmem]
      have : done.lookup k = none := by
        rw [hdone, List.map_append, List.map_cons] at hknd
        have := (List.nodup_append.mp hknd).2.2
        cases q : done.lookup k with
        | none => rfl
        | some y =>
          have hm := mem_of_lookup q
          exact absurd rfl (this k (List.mem_map.mpr ⟨_, hm, rfl⟩) k (by simp))
      rw [this]; rfl
    simp only [hin, if_true, hno, Bool.false_eq_true, if_false]
    exact wpAny_pure ⟨rfl, done ++ [(k, v)], by rw [hdone]; simp, by have hb1' : b1 = names.zip xs ++ done := hb1; simp [hb1']⟩
  rintro ⟨b1, b2⟩ s1 ⟨rfl, done, hdone, hb1⟩
  rw [List.append_nil] at hdone
  subst hdone
  have hb1' : b1 = names.zip xs ++ kw := hb1
  subst hb1'
  refine wpAny_bind (hdef M A E _ fun r hr => ?_)
  have hgiven : decide (xs.length > names.length) = false := by simp; omega
  simp only [hgiven, Bool.false_eq_true, if_false, hr]
  have hdrop : ds.drop (ds.length - names.length) = ds := by rw [show ds.length - names.length = 0 by omega]; rfl
  rw [hdrop]
  have hidx : ∀ (n : Str) (j : Nat), (n, j) ∈ names.zipIdx → names[j]? = some n := fun n j hj => by
    have := List.mem_zipIdx hj
    obtain ⟨_, h2, h3⟩ := this
    simp at h2 h3
    rw [h3]; simp [h2]
  have hmiss : (List.filter (fun n => ((names.zip xs ++ kw).lookup n).isNone) (names.take (names.length - ds.length))) = [] := by
    rw [List.filter_eq_nil_iff]
    intro n hn
    obtain ⟨j, hj⟩ := List.mem_iff_getElem?.mp hn
    have hjlt : j < names.length - ds.length := by
      have := (List.getElem?_eq_some_iff.mp hj).1
      simp at this; omega
    rw [List.getElem?_take_of_lt hjlt] at hj
    have hmem : (n, j) ∈ names.zipIdx := by
      rw [List.mem_iff_getElem?]
      exact ⟨j, by rw [List.getElem?_zipIdx, hj]; simp⟩
    have hs := mapO_some hb (n, j) hmem
    have hd : ((dfls names.length ds)[j]?).join = none := by
      unfold dfls
      rw [List.getElem?_append_left (by simpa using hjlt), List.getElem?_replicate, if_pos hjlt]; rfl
    rw [hd, Option.or_none] at hs
    rw [List.lookup_append, zip_lookup names xs j n hnd hj, lk_lookup]
    have hs' : ((xs[j]?).or (lk kw n)).isSome = true := hs
    intro e
    rw [Option.isNone_iff_eq_none] at e
    rw [e] at hs'; cases hs'
  rw [hmiss]
  simp only [List.isEmpty_nil, Bool.not_true, Bool.false_eq_true, if_false]
  refine wpAny_bind (wpAny_forIn_list _ (fun (rest : List (Str × Value)) (b : List (Str × Value)) s2 => s2 = s1 ∧ ∃ done, (names.drop (names.length - ds.length)).zip ds = done ++ rest ∧ ∀ n, b.lookup n = ((names.zip xs ++ kw).lookup n).or (done.lookup n)) _ ?_ ?_ _ _ ⟨rfl, [], rfl, by simp⟩)
  · rintro ⟨k, v⟩ rest b s2 ⟨rfl, done, hdone, hb2⟩
    by_cases q : (b.lookup k).isNone = true
    · simp only [q, if_true]
      refine wpAny_pure ⟨rfl, done ++ [(k, v)], by rw [hdone]; simp, fun n => ?_⟩
      rw [List.lookup_append (l₁ := b), List.lookup_append (l₁ := done), hb2 n, Option.or_assoc]
    · simp only [q, Bool.false_eq_true, if_false]
      refine wpAny_pure ⟨rfl, done ++ [(k, v)], by rw [hdone]; simp, fun n => ?_⟩
      rw [List.lookup_append (l₁ := done), ← Option.or_assoc, ← hb2 n]
      by_cases z : n = k
      · subst z
        cases hq : b.lookup n with
        | none => rw [hq] at q; simp at q
        | some y => rfl
      · have : (n == k) = false := by simpa using z
        simp [List.lookup_cons, this]
  rintro b s2 ⟨rfl, done, hdone, hb2⟩
  rw [List.append_nil] at hdone
  subst hdone
  have hfin := fm_zip (f := fun n => b.lookup n) names 0 _ ys (fun p hp => ?_) hb
  · refine wpAny_pure ?_
    rw [hfin.1]
    exact hQ
  · obtain ⟨n, j⟩ := p
    have hj := hidx n j hp
    have hjl := (List.getElem?_eq_some_iff.mp hj).1
    show b.lookup n = _
    rw [hb2 n, List.lookup_append, zip_lookup names xs j n hnd hj, lk_lookup, Option.or_assoc]
    congr 2
    unfold dfls
    by_cases q : j < names.length - ds.length
    · rw [List.getElem?_append_left (by simpa using q), List.getElem?_replicate, if_pos q]
      refine zip_lookup_none _ _ _ fun hm => ?_
      obtain ⟨i, hi⟩ := List.mem_iff_getElem?.mp hm
      rw [List.getElem?_drop] at hi
      have e1 := (List.getElem?_eq_some_iff.mp hj).2
      have hil := (List.getElem?_eq_some_iff.mp hi).1
      have e2 := (List.getElem?_eq_some_iff.mp hi).2
      exact absurd (e1.trans e2.symm) (List.pairwise_iff_getElem.mp hnd j _ hjl hil (by omega))
    · have hd : (names.drop (names.length - ds.length))[j - (names.length - ds.length)]? = some n := by
        rw [List.getElem?_drop, show names.length - ds.length + (j - (names.length - ds.length)) = j by omega]; exact hj
      rw [zip_lookup _ ds _ n (hnd.sublist (List.drop_sublist _ _)) hd, List.getElem?_append_right (by simpa using q), List.length_replicate, List.getElem?_map]
      cases ds[j - (names.length - ds.length)]? <;> rfl
end Lw
set_option autoImplicit false
namespace Lw
open PySem PySem.W PySem.Calls PyProof.Rows

section
variable {prog : Program} {ω : World} {K : Frag} {mg mb : Str → Option Value} {P : Prog} {cl : Cl} {n : Nat} {cx : Cxt}
  {hd : Bool} {c : Cx} {w : Wd} {ρ : Rho} {σ σ' : St} {env : Env} {envs : List Env} {A : Around} {s : Shared}

theorem mapO_reads {h : Heap} {m : Nat} {f : V → Option PyData} (ih : ∀ v x d, VR K w v x → f v = some d → (∃ as, Reads h x d as) ∧ d.canLay0 = true ∧ d.depth ≤ m) :
    ∀ {vs : List V} {xs : List Value} {ds : List PyData}, VRs K w vs xs → mapO f vs = some ds → (∃ as, ReadsAll h xs ds as) ∧ PyData.canLayAll0 ds = true ∧ PyData.depthAll ds ≤ m
  | _, _, ds, .nil, e => by
    simp only [mapO, Option.some.injEq] at e; subst e
    exact ⟨⟨_, .nil⟩, by simp [PyData.canLayAll0], by simp [PyData.depthAll]⟩
  | _, _, ds, .cons a r, e => by
    rw [mapO] at e
    split at e
    · rename_i b bs h1 h2
      simp only [Option.some.injEq] at e; subst e
      obtain ⟨⟨as, q1⟩, q2, q3⟩ := ih _ _ _ a h1
      obtain ⟨⟨bs', p1⟩, p2, p3⟩ := mapO_reads ih r h2
      exact ⟨⟨_, .cons q1 p1⟩, by simp [PyData.canLayAll0, q2, p2], by simp only [PyData.depthAll]; omega⟩
    · cases e

theorem reads_of {h : Heap} (S : SR prog ω K c w σ h) : ∀ (m : Nat) (v : V) (x : Value) (d : PyData), VR K w v x → dataOf σ m v = some d → (∃ as, Reads h x d as) ∧ d.canLay0 = true ∧ d.depth ≤ m := by
  intro m
  induction m with
  | zero =>
    intro v x d hv e
    cases hv <;> simp only [dataOf, Option.some.injEq, reduceCtorEq] at e <;> subst e
    · exact ⟨⟨_, .none⟩, rfl, Nat.le_refl _⟩
    · exact ⟨⟨_, .bool _⟩, rfl, Nat.le_refl _⟩
    · exact ⟨⟨_, .int _ _⟩, rfl, Nat.le_refl _⟩
    · rename_i k; exact ⟨⟨_, .str _ _⟩, by simpa [PyData.canLay0] using (sOk_iff.mp k).1, Nat.le_refl _⟩
  | succ m ih =>
    intro v x d hv e
    cases hv with
    | none => simp only [dataOf, Option.some.injEq] at e; subst e; exact ⟨⟨_, .none⟩, rfl, Nat.zero_le _⟩
    | bool b => simp only [dataOf, Option.some.injEq] at e; subst e; exact ⟨⟨_, .bool _⟩, rfl, Nat.zero_le _⟩
    | int i t => simp only [dataOf, Option.some.injEq] at e; subst e; exact ⟨⟨_, .int _ _⟩, rfl, Nat.zero_le _⟩
    | str y t k => simp only [dataOf, Option.some.injEq] at e; subst e; exact ⟨⟨_, .str _ _⟩, by simpa [PyData.canLay0] using (sOk_iff.mp k).1, Nat.zero_le _⟩
    | tup e1 e2 e3 e4 _ =>
      simp only [dataOf, Option.map_eq_some_iff] at e
      obtain ⟨ds, e, rfl⟩ := e
      obtain ⟨⟨as, q⟩, q2, q3⟩ := mapO_reads ih e4 e
      exact ⟨⟨_, .tuple (S.kg _ _ e1) e2 e3 q⟩, by simpa [PyData.canLay0] using q2, by simp only [PyData.depth]; omega⟩
    | lst e1 e2 e3 e4 _ =>
      simp only [dataOf, Option.map_eq_some_iff] at e
      obtain ⟨ds, e, rfl⟩ := e
      obtain ⟨⟨as, q⟩, q2, q3⟩ := mapO_reads ih e4 e
      exact ⟨⟨_, .list (S.kg _ _ e1) e2 e3 q⟩, by simpa [PyData.canLay0] using q2, by simp only [PyData.depth]; omega⟩
    | rng _ _ => simp [dataOf] at e
    | ref e1 =>
      simp only [dataOf] at e
      split at e
      · rename_i lk vs hg
        obtain ⟨p, hp, r⟩ := S.obj _ _ hg
        rw [e1] at hp; cases hp
        obtain ⟨_, xs, k, r1, r2, _⟩ := r
        simp only [Option.map_eq_some_iff] at e
        obtain ⟨ds, e, rfl⟩ := e
        obtain ⟨⟨as, q⟩, q2, q3⟩ := mapO_reads ih r2 e
        exact ⟨⟨_, .list r1 rfl rfl q⟩, by simpa [PyData.canLay0] using q2, by simp only [PyData.depth]; omega⟩
      · cases e
    | exc _ _ _ _ => simp [dataOf] at e

theorem eqV_sound {a b : V} {x y : Value} {t : Bool} {E : Value → Shared → Prop} {Q : Value → Shared → Prop} (S : SR prog ω K c w σ s.heap) (hu : A.units + 64 < 9900) (ha : VR K w a x) (hb : VR K w b y) (ht : eqV σ a b = some t) :
    (Q (.bool t) s → wpAny (model prog ω) A (compareOp .Eq x y) Q E s) ∧ (Q (.bool (!t)) s → wpAny (model prog ω) A (compareOp .NotEq x y) Q E s) := by
  unfold eqV at ht
  split at ht
  · rename_i da db h1 h2
    simp only [Option.some.injEq] at ht; subst ht
    obtain ⟨⟨as, r1⟩, c1, d1⟩ := reads_of S _ _ _ _ ha h1
    obtain ⟨⟨bs, r2⟩, c2, d2⟩ := reads_of S _ _ _ _ hb h2
    have s1 : SeqAt.shaped da = true := by simp only [SeqAt.shaped, c1, Bool.true_and, decide_eq_true_eq]; omega
    have s2 : SeqAt.shaped db = true := by simp only [SeqAt.shaped, c2, Bool.true_and, decide_eq_true_eq]; omega
    exact ⟨fun h => SeqAt.compareEq_shaped r1 r2 s1 s2 hu h, fun h => SeqAt.compareNe_shaped r1 r2 s1 s2 hu h⟩
  · cases ht

theorem lk_valueAt {κ : Type} [DecidableEq κ] {es : List (κ × V)} {kvs : List (κ × Value)} (r : ER K w es kvs) (k : κ) :
    (∀ v, lk es k = some v → ∃ x, valueAt kvs k = some x ∧ VR K w v x) ∧ (lk es k = none → valueAt kvs k = none) := by
  induction r with
  | nil => exact ⟨fun v e => by simp [lk] at e, fun _ => by simp [valueAt]⟩
  | @cons k' v x es kvs hv _ ih =>
    by_cases h : k' = k
    · subst h
      exact ⟨fun u e => by simp [lk] at e; subst e; exact ⟨x, by simp [valueAt], hv⟩, fun e => by simp [lk] at e⟩
    · have e1 : lk ((k', v) :: es) k = lk es k := by simp [lk, h]
      have e2 : valueAt ((k', x) :: kvs) k = valueAt kvs k := by simp [valueAt, h]
      rw [e1, e2]; exact ih
theorem cmpI_inv {a b : V} {k : Int → Int → Bool} {t : Bool} (h : cmpI a b k = some t) : ∃ i j, a = .int i ∧ b = .int j ∧ k i j = t := by
  unfold cmpI at h
  split at h
  · split at h
    · exact ⟨_, _, rfl, rfl, Option.some.inj h⟩
    · cases h
  · cases h
theorem cmpV_sound {op : COp} {a b : V} {x y : Value} {t : Bool} {E : Value → Shared → Prop} {Q : Value → Shared → Prop} (S : SR prog ω K c w σ s.heap) (hu : A.units + 64 < 9900) (ha : VR K w a x) (hb : VR K w b y) (ht : cmpV σ op a b = some t)
    (h : ∀ tk, Q (.bool t) { s with toks := tk }) : wpAny (model prog ω) A (compareOp (copOf op) x y) Q E s := by
  have two : ∀ {k : Int → Int → Bool}, cmpI a b k = some t → ∃ i j u v, x = .int i u ∧ y = .int j v ∧ k i j = t := fun e => by
    obtain ⟨i, j, rfl, rfl, e'⟩ := cmpI_inv e
    obtain ⟨u, rfl⟩ := ha.intv
    obtain ⟨v, rfl⟩ := hb.intv
    exact ⟨i, j, u, v, rfl, rfl, e'⟩
  cases op with
  | lt => obtain ⟨i, j, u, v, rfl, rfl, rfl⟩ := two ht; exact PyProof.Rows.lt_int (h s.toks)
  | le => obtain ⟨i, j, u, v, rfl, rfl, rfl⟩ := two ht; exact PyProof.Rows.le_int (h s.toks)
  | gt => obtain ⟨i, j, u, v, rfl, rfl, rfl⟩ := two ht; exact PySem.P.gt_int (h s.toks)
  | ge => obtain ⟨i, j, u, v, rfl, rfl, rfl⟩ := two ht; exact PySem.P.ge_int (h s.toks)
  | eq => exact (eqV_sound S hu ha hb ht).1 (h s.toks)
  | ne =>
    obtain ⟨t', e, rfl⟩ := Option.map_eq_some_iff.mp ht
    exact (eqV_sound S hu ha hb e).2 (h s.toks)
  | isin => cases ht
  | notin => cases ht
theorem AOK.u64 (h : AOK A n hd c envs) : A.units + 64 < 9900 := by have := h.units; omega

theorem marks_of {op : CmpOp} {e : Expr} (h : notSetE e = true) : behindInMarks op e = false := by
  cases e <;> first | rfl | (exact (Bool.false_ne_true h).elim)

theorem sim_cmp {op : COp} {a b : E} {l r : Expr} {pos : Pos} (hns : notSetE r = true) (ha : Sim prog ω K mg mb P cl n cx a l) (hb : Sim prog ω K mg mb P cl n cx b r) : Sim prog ω K mg mb P cl n cx (.cmp op a b) (.Compare l [copOf op] [r] pos) := by
  constructor
  · intro hd c w ρ σ env envs A s r' σ' hev B S F hn hA
    rw [e_cmp] at hev
    refine wpAny_Compare1 (ha.v.bind hev B S F hn hA fun x xv σ₁ w₁ s₁ hk hs hw S₁ hx => ?_) (marks_of hns)
    refine hb.v.bind' hk B S₁ (F.mono hw) hn hA hs hw fun y yv σ₂ w₂ s₂ hk hs₂ hw₂ hw12 S₂ hy => ?_
    split at hk
    · rename_i z hz
      simp only [Option.some.injEq, Prod.mk.injEq] at hk
      obtain ⟨rfl, rfl⟩ := hk
      exact cmpV_sound S₂ hA.u64 (hx.mono hw12) hy hz fun tk => ⟨hs₂.trans (.ofT _ _), w₂, _, rfl, hw₂, S₂, .bool _⟩
    · cases hk
  · intro hd c w ρ σ env envs A s r' σ' hev ht B S F hn hA
    rw [e_cmp] at hev
    refine wpAny_isTrue_Compare1 (ha.v.bind hev B S F hn hA fun x xv σ₁ w₁ s₁ hk hs hw S₁ hx => ?_) (marks_of hns)
    refine hb.v.bind' hk B S₁ (F.mono hw) hn hA hs hw fun y yv σ₂ w₂ s₂ hk hs₂ hw₂ hw12 S₂ hy => ?_
    split at hk
    · rename_i z hz
      simp only [Option.some.injEq, Prod.mk.injEq] at hk
      obtain ⟨rfl, rfl⟩ := hk
      exact cmpV_sound S₂ hA.u64 (hx.mono hw12) hy hz fun tk => wpAny_truthy_bool ⟨hs₂.trans (.ofT _ _), w₂, _, rfl, rfl, hw₂, S₂⟩
    · cases hk

theorem sim_not {a : E} {l : Expr} {pos : Pos} (ha : Sim prog ω K mg mb P cl n cx a l) : Sim prog ω K mg mb P cl n cx (.not a) (.UnaryOp .Not l pos) := by
  constructor
  · intro hd c w ρ σ env envs A s r' σ' hev B S F hn hA
    rw [e_not] at hev
    refine wpAny_UnaryOp (ha.v.bind hev B S F hn hA fun x xv σ₁ w₁ s₁ hk hs hw S₁ hx => ?_)
    split at hk
    · rename_i t ht
      simp only [Option.some.injEq, Prod.mk.injEq] at hk
      obtain ⟨rfl, rfl⟩ := hk
      exact not_value (truthV_sound hx ht ⟨hs, w₁, _, rfl, hw, S₁, .bool _⟩)
    · cases hk
  · intro hd c w ρ σ env envs A s r' σ' hev ht B S F hn hA
    rw [e_not] at hev
    cases h1 : ev P cl hd a ρ σ with
    | none => rw [h1] at hev; cases hev
    | some q =>
      obtain ⟨ra, σ₁⟩ := q
      rw [h1] at hev
      cases ra with
      | exc x =>
        simp only [bindM, Option.some.injEq, Prod.mk.injEq] at hev
        obtain ⟨rfl, rfl⟩ := hev
        refine wpAny_isTrue_Not (wpAny_mono (ha.t hd c w ρ σ env envs A s _ _ h1 (fun _ q => by cases q) B S F hn hA) (fun t s₁ q => ?_) fun e s₁ q => ?_)
        · obtain ⟨_, _, _, q, _⟩ := q; cases q
        · obtain ⟨y, q, h⟩ := q; cases q; exact ⟨_, rfl, h⟩
      | ok x =>
        simp only [bindM] at hev
        split at hev
        · rename_i t hx
          simp only [Option.some.injEq, Prod.mk.injEq] at hev
          obtain ⟨rfl, rfl⟩ := hev
          refine wpAny_isTrue_Not (wpAny_mono (ha.t hd c w ρ σ env envs A s _ _ h1 (fun _ q => by cases q; exact ⟨t, hx⟩) B S F hn hA) (fun t' s₁ q => ?_) fun e s₁ q => ?_)
          · obtain ⟨hs, w₁, y, q, ht', hw, S₁⟩ := q; cases q
            rw [hx] at ht'; cases ht'
            exact ⟨hs, w₁, _, rfl, rfl, hw, S₁⟩
          · obtain ⟨y, q, _⟩ := q; cases q
        · cases hev

theorem sim_neg {a : E} {l : Expr} {pos : Pos} (ha : Sim prog ω K mg mb P cl n cx a l) : Sim prog ω K mg mb P cl n cx (.neg a) (.UnaryOp .USub l pos) := by
  have h : SimE prog ω K mg mb P cl n cx (.neg a) (.UnaryOp .USub l pos) := by
    intro hd c w ρ σ env envs A s r' σ' hev B S F hn hA
    rw [e_neg] at hev
    refine wpAny_UnaryOp (ha.v.bind hev B S F hn hA fun x xv σ₁ w₁ s₁ hk hs hw S₁ hx => ?_)
    cases hx <;> simp only [reduceCtorEq, Option.some.injEq, Prod.mk.injEq] at hk
    obtain ⟨rfl, rfl⟩ := hk
    exact PySem.P.neg_int ⟨hs.trans (.ofT _ _), w₁, _, rfl, hw, S₁, .int _ _⟩
  exact ⟨h, h.simT fun _ _ => rfl⟩
end
end Lw
set_option autoImplicit false
namespace Lw
open PySem PySem.W PySem.Calls PyProof.Rows

section
variable (prog : Program) (ω : World) (K : Frag) (mg mb : Str → Option Value) (P : Prog) (cl : Cl) (n : Nat) (cx : Cxt)
inductive Sims : List E → List Expr → Prop
  | nil : Sims [] []
  | cons {a : E} {e : Expr} {r : List E} {es : List Expr} : notStar e = true → Sim prog ω K mg mb P cl n cx a e → Sims r es → Sims (a :: r) (e :: es)
end

section
variable {prog : Program} {ω : World} {K : Frag} {mg mb : Str → Option Value} {P : Prog} {cl : Cl} {n : Nat} {cx : Cxt}
  {hd : Bool} {c : Cx} {w : Wd} {ρ : Rho} {σ σ' : St} {env : Env} {envs : List Env} {A : Around} {s : Shared}

noncomputable def opB (isAnd : Bool) : BoolOp := if isAnd then .And else .Or

theorem boolOp_one (pos : Pos) (op : BoolOp) (x : Sem Value) : boolOp pos op [x] = x := rfl
theorem boolOp_more {E : Value → Shared → Prop} {Q : Value → Shared → Prop} {pos : Pos} {isAnd : Bool} {x y : Sem Value} {rest : List (Sem Value)}
    (h : wpAny (model prog ω) A x (fun v s₁ => wpAny (model prog ω) A (truthy v) (fun t s₂ => if t = isAnd then wpAny (model prog ω) A (boolOp pos (opB isAnd) (y :: rest)) Q E s₂ else Q v s₂) E s₁) E s) :
    wpAny (model prog ω) A (boolOp pos (opB isAnd) (x :: y :: rest)) Q E s := by
  show wpAny (model prog ω) A (do
    let v ← x
    standAt pos
    let t ← holding [v] (truthy v)
    match opB isAnd, t with
    | .And, false | .Or, true => pure v
    | _, _ => boolOp pos (opB isAnd) (y :: rest)) Q E s
  refine wpAny_bind (wpAny_mono h (fun v s₁ q => wpAny_bind (wpAny_standAt (wpAny_bind (wpAny_holding (wpAny_mono q (fun t s₂ q => ?_) fun _ _ q => q))))) fun _ _ q => q)
  cases isAnd <;> cases t <;> first | exact q | exact wpAny_pure q

theorem evBool_sound {isAnd : Bool} {pos : Pos} {es : List E} {vs : List Expr} (hes : Sims prog ω K mg mb P cl n cx es vs) :
    ∀ (c : Cx) (w w₀ : Wd) (σ : St) (s s₀ : Shared) (r : Res V), evBool P cl hd isAnd es ρ σ = some (r, σ') → Base K c mg mb → SR prog ω K c w σ s.heap → FR K c w env cx.vis ρ → Fits cx c env → AOK A n hd c envs → Same s₀ s → w₀.Le w →
    wpAny (model prog ω) A (boolOp pos (opB isAnd) (evalEach vs env)) (QV prog ω K c w₀ s₀ r σ') (QX prog ω K c w₀ envs s₀ r σ') s := by
  induction hes with
  | nil => intro c w w₀ σ s s₀ r hev; cases hev
  | @cons a e r' es' _ ha hr ih =>
    intro c w w₀ σ s s₀ r hev B S F hn hA hs hw
    cases hr with
    | nil =>
    rw [evBool] at hev
    simp only [evalEach]
    rw [boolOp_one]
    refine ha.v.bind' hev B S F hn hA hs hw fun x xv σ₁ w₁ s₁ hk hs₁ hw₁ hww S₁ hx => ?_
    simp only [Option.some.injEq, Prod.mk.injEq] at hk
    obtain ⟨rfl, rfl⟩ := hk
    exact ⟨hs₁, w₁, _, rfl, hw₁, S₁, hx⟩
    | @cons b e' r'' es'' hst2 ha2 hr2 =>
    rw [evBool] at hev
    simp only [evalEach]
    refine boolOp_more (ha.v.bind' hev B S F hn hA hs hw fun x xv σ₁ w₁ s₁ hk hs₁ hw₁ hww S₁ hx => ?_)
    dsimp only at hk
    split at hk
    · rename_i t ht
      refine truthV_sound hx ht ?_
      split at hk
      · rename_i hta
        rw [if_pos hta]
        have := ih c w₁ w₀ σ₁ s₁ s₀ r hk B S₁ (F.mono hww) hn hA hs₁ hw₁
        simpa only [evalEach] using this
      · rename_i hta
        rw [if_neg hta]
        simp only [Option.some.injEq, Prod.mk.injEq] at hk
        obtain ⟨rfl, rfl⟩ := hk
        exact ⟨hs₁, w₁, _, rfl, hw₁, S₁, hx⟩
    · cases hk

theorem evBool_test {isAnd : Bool} {es : List E} {vs : List Expr} (h : Sims prog ω K mg mb P cl n cx es vs) : es ≠ [] →
    ∀ (c : Cx) (w w₀ : Wd) (σ : St) (s s₀ : Shared) (r : Res V), evBool P cl hd isAnd es ρ σ = some (r, σ') → (∀ a, r = .ok a → ∃ t, truthV σ' a = some t) → Base K c mg mb → SR prog ω K c w σ s.heap → FR K c w env cx.vis ρ → Fits cx c env → AOK A n hd c envs → Same s₀ s → w₀.Le w →
    wpAny (model prog ω) A (allTrue (opB isAnd) vs env) (fun t s' => Same s₀ s' ∧ ∃ w' a, r = .ok a ∧ truthV σ' a = some t ∧ w₀.Le w' ∧ SR prog ω K c w' σ' s'.heap) (QX prog ω K c w₀ envs s₀ r σ') s := by
  induction h with
  | nil => exact fun hne => absurd rfl hne
  | @cons a e r' es _ ha hr ih =>
    intro _ c w w₀ σ s s₀ r hev ht B S F hn hA hs hw
    rw [evBool] at hev
    cases h1 : ev P cl hd a ρ σ with
    | none => rw [h1] at hev; cases hev
    | some q =>
      obtain ⟨ra, σ₁⟩ := q
      rw [h1] at hev
      cases ra with
      | exc x =>
        simp only [bindM, Option.some.injEq, Prod.mk.injEq] at hev
        obtain ⟨rfl, rfl⟩ := hev
        have key := ha.t hd c w ρ σ env envs A s _ _ h1 (fun _ q => by cases q) B S F hn hA
        cases isAnd
        · refine wpAny_allTrue_Or_cons (wpAny_mono key (fun t s₁ q => ?_) fun e s₁ q => q.mono hs hw)
          obtain ⟨_, _, _, q, _⟩ := q; cases q
        · refine wpAny_allTrue_And_cons (wpAny_mono key (fun t s₁ q => ?_) fun e s₁ q => q.mono hs hw)
          obtain ⟨_, _, _, q, _⟩ := q; cases q
      | ok x =>
        simp only [bindM] at hev
        have htx : ∃ t, truthV σ₁ x = some t := by
          cases r' with
          | nil =>
            simp only [Option.some.injEq, Prod.mk.injEq] at hev
            obtain ⟨rfl, rfl⟩ := hev
            exact ht _ rfl
          | cons b r'' =>
            dsimp only at hev
            split at hev
            · rename_i t h; exact ⟨t, h⟩
            · cases hev
        obtain ⟨t, htx⟩ := htx
        have key := ha.t hd c w ρ σ env envs A s _ _ h1 (fun _ q => by cases q; exact ⟨t, htx⟩) B S F hn hA
        have rest : ∀ s₁ w₁, Same s s₁ → w.Le w₁ → SR prog ω K c w₁ σ₁ s₁.heap →
            (if t = isAnd then wpAny (model prog ω) A (allTrue (opB isAnd) es env) (fun t s' => Same s₀ s' ∧ ∃ w' a, r = .ok a ∧ truthV σ' a = some t ∧ w₀.Le w' ∧ SR prog ω K c w' σ' s'.heap) (QX prog ω K c w₀ envs s₀ r σ') s₁
              else (Same s₀ s₁ ∧ ∃ w' a, r = .ok a ∧ truthV σ' a = some t ∧ w₀.Le w' ∧ SR prog ω K c w' σ' s₁.heap)) := by
          intro s₁ w₁ hs₁ hw₁ S₁
          cases r' with
          | nil =>
            cases hr
            simp only [Option.some.injEq, Prod.mk.injEq] at hev
            obtain ⟨rfl, rfl⟩ := hev
            split
            · rename_i q; subst q
              cases t
              · exact wpAny_allTrue_Or_nil ⟨hs.trans hs₁, w₁, _, rfl, htx, hw.trans hw₁, S₁⟩
              · exact wpAny_allTrue_And_nil ⟨hs.trans hs₁, w₁, _, rfl, htx, hw.trans hw₁, S₁⟩
            · exact ⟨hs.trans hs₁, w₁, _, rfl, htx, hw.trans hw₁, S₁⟩
          | cons b r'' =>
            dsimp only at hev
            rw [htx] at hev
            dsimp only at hev
            split
            · rename_i q
              rw [if_pos q] at hev
              exact ih (by simp) c w₁ w₀ σ₁ s₁ s₀ r hev ht B S₁ (F.mono hw₁) hn hA (hs.trans hs₁) (hw.trans hw₁)
            · rename_i q
              rw [if_neg q] at hev
              simp only [Option.some.injEq, Prod.mk.injEq] at hev
              obtain ⟨rfl, rfl⟩ := hev
              exact ⟨hs.trans hs₁, w₁, _, rfl, htx, hw.trans hw₁, S₁⟩
        cases isAnd
        · refine wpAny_allTrue_Or_cons (wpAny_mono key (fun t' s₁ q => ?_) fun e s₁ q => ?_)
          · obtain ⟨hs₁, w₁, y, q, ht', hw₁, S₁⟩ := q; cases q
            rw [htx] at ht'; cases ht'
            have := rest s₁ w₁ hs₁ hw₁ S₁
            cases t
            · simpa only [opB, Bool.false_eq_true, ite_true, ite_false] using this
            · simpa only [opB, Bool.true_eq_false, ite_true, ite_false] using this
          · obtain ⟨y, q, _⟩ := q; cases q
        · refine wpAny_allTrue_And_cons (wpAny_mono key (fun t' s₁ q => ?_) fun e s₁ q => ?_)
          · obtain ⟨hs₁, w₁, y, q, ht', hw₁, S₁⟩ := q; cases q
            rw [htx] at ht'; cases ht'
            have := rest s₁ w₁ hs₁ hw₁ S₁
            cases t
            · simpa only [opB, Bool.false_eq_true, ite_true, ite_false] using this
            · simpa only [opB, ite_true, ite_false] using this
          · obtain ⟨y, q, _⟩ := q; cases q

theorem sim_bool {isAnd : Bool} {es : List E} {vs : List Expr} {pos : Pos} (h : Sims prog ω K mg mb P cl n cx es vs) (hne : es ≠ []) : Sim prog ω K mg mb P cl n cx (.bool isAnd es) (.BoolOp (opB isAnd) vs pos) := by
  constructor
  · intro hd c w ρ σ env envs A s r' σ' hev B S F hn hA
    rw [e_bool] at hev
    exact evBool_sound h c w w σ s s r' hev B S F hn hA (.refl _) (.refl _)
  · intro hd c w ρ σ env envs A s r' σ' hev ht B S F hn hA
    rw [e_bool] at hev
    exact wpAny_isTrue_BoolOp (evBool_test h hne c w w σ s s r' hev ht B S F hn hA (.refl _) (.refl _))

noncomputable def QVs (prog : Program) (ω : World) (K : Frag) (c : Cx) (w : Wd) (s : Shared) (r : Res (List V)) (σ' : St) : List Value → Shared → Prop := fun vs s' =>
  Same s s' ∧ ∃ w' as, r = .ok as ∧ w.Le w' ∧ SR prog ω K c w' σ' s'.heap ∧ VRs K w' as vs

theorem star_plain {e : Expr} {rest : List Expr} (h : notStar e = true) : starEach (e :: rest) env = (false, eval e env) :: starEach rest env := by
  cases e <;> first | rfl | (exact (Bool.false_ne_true h).elim)

theorem evs_sound {pos : Pos} {es : List E} {xs : List Expr} (h : Sims prog ω K mg mb P cl n cx es xs) :
    ∀ (w w₀ : Wd) (σ σ' : St) (s s₀ : Shared) (r : Res (List V)), evs P cl hd es ρ σ = some (r, σ') → Base K c mg mb → SR prog ω K c w σ s.heap → FR K c w env cx.vis ρ → Fits cx c env → AOK A n hd c envs → Same s₀ s → w₀.Le w →
    wpAny (model prog ω) A (spliced (backTo pos (starEach xs env))) (QVs prog ω K c w₀ s₀ r σ') (QX prog ω K c w₀ envs s₀ r σ') s := by
  induction h with
  | nil =>
    intro w w₀ σ σ' s s₀ r hev B S F hn hA hs hw
    simp only [evs, Option.some.injEq, Prod.mk.injEq] at hev
    obtain ⟨rfl, rfl⟩ := hev
    exact wpAny_items_nil ⟨hs, w, _, rfl, hw, S, .nil⟩
  | @cons a e r' es' hst ha hr ih =>
    intro w w₀ σ σ' s s₀ r hev B S F hn hA hs hw
    rw [evs] at hev
    refine wpAny_items_cons (ha.v.bind' hev B S F hn hA hs hw fun x xv σ₁ w₁ s₁ hk hs₁ hw₁ hww S₁ hx => ?_) (star_plain hst)
    cases h1 : evs P cl hd r' ρ σ₁ with
    | none => rw [h1] at hk; cases hk
    | some q =>
      obtain ⟨ra, σ₂⟩ := q
      rw [h1] at hk
      cases ra with
      | exc y =>
        simp only [bindM, Option.some.injEq, Prod.mk.injEq] at hk
        obtain ⟨rfl, rfl⟩ := hk
        refine wpAny_mono (ih w₁ w₀ σ₁ _ s₁ s₀ _ h1 B S₁ (F.mono hww) hn hA hs₁ hw₁) (fun v s₂ q => ?_) fun e s₂ q => ?_
        · obtain ⟨_, _, _, q, _⟩ := q; cases q
        · obtain ⟨z, q, h⟩ := q; cases q; exact ⟨_, rfl, h⟩
      | ok ys =>
        simp only [bindM, Option.some.injEq, Prod.mk.injEq] at hk
        obtain ⟨rfl, rfl⟩ := hk
        refine wpAny_mono (ih w₁ w₁ σ₁ _ s₁ s₁ _ h1 B S₁ (F.mono hww) hn hA (.refl _) (.refl _)) (fun v s₂ q => ?_) fun e s₂ q => ?_
        · obtain ⟨hs₂, w₂, as, q, hw₂, S₂, hv⟩ := q; cases q
          exact ⟨hs₁.trans hs₂, w₂, _, rfl, hw₁.trans hw₂, S₂, .cons (hx.mono hw₂) hv⟩
        · obtain ⟨z, q, _⟩ := q; cases q

theorem Sims.bind {α : Type} {es : List E} {xs : List Expr} {pos : Pos} {k : List V → St → Option (Res α × St)} {r : Res α} {R : List Value → Shared → Prop} {w₀ : Wd} {s₀ : Shared} (ha : Sims prog ω K mg mb P cl n cx es xs)
    (hev : bindM (evs P cl hd es ρ σ) k = some (r, σ')) (B : Base K c mg mb) (S : SR prog ω K c w σ s.heap) (F : FR K c w env cx.vis ρ) (hn : Fits cx c env) (hA : AOK A n hd c envs)
    (hs₀ : Same s₀ s) (hw₀ : w₀.Le w)
    (hk : ∀ x xv σ₁ w₁ s₁, k x σ₁ = some (r, σ') → Same s₀ s₁ → w₀.Le w₁ → w.Le w₁ → SR prog ω K c w₁ σ₁ s₁.heap → VRs K w₁ x xv → R xv s₁) :
    wpAny (model prog ω) A (spliced (backTo pos (starEach xs env))) R (QX prog ω K c w₀ envs s₀ r σ') s := by
  unfold bindM at hev
  split at hev
  · cases hev
  · rename_i x σ₁ h1
    cases hev
    refine wpAny_mono (evs_sound (pos := pos) ha w w₀ σ _ s s₀ _ h1 B S F hn hA hs₀ hw₀) (fun v s₁ q => ?_) fun e s₁ q => ?_
    · obtain ⟨_, _, _, q, _⟩ := q; cases q
    · obtain ⟨y, q, h⟩ := q; cases q; exact ⟨_, rfl, h⟩
  · rename_i x σ₁ h1
    refine wpAny_mono (evs_sound (pos := pos) ha w w σ _ s s _ h1 B S F hn hA (.refl _) (.refl _)) (fun v s₁ q => ?_) fun e s₁ q => ?_
    · obtain ⟨hs, w₁, y, q, hw, S₁, hv⟩ := q; cases q
      exact hk _ _ _ _ _ hev (hs₀.trans hs) (hw₀.trans hw) hw S₁ hv
    · obtain ⟨y, q, _⟩ := q; cases q

theorem alloc_list {vs : List V} {xs : List Value} {h : Heap} (S : SR prog ω K c w σ h) (B : Base K c mg mb) (hv : VRs K w vs xs) (hl : vs.length ≤ lim) :
    SR prog ω K c (w.more (h.objs.size, h.objs.size)) (σ.new (.list false vs)) (h.push { cls := .type "list", data := .seq xs.toArray }) := by
  have hn0 := get_size h
  have hsys : h.objs.size ≠ sysModules := by
    obtain ⟨o, e, _⟩ := B.g
    have := Heap.lt_size (S.kp _ _ e)
    have : mainGlobals < h.objs.size := this
    intro q; rw [q] at this; revert this; decide
  refine S.alloc hn0 hn0 (push_keeps h _) hsys ⟨_, Heap.get?_push_size _ rfl⟩ ⟨_, Heap.get?_push_size _ rfl⟩ ⟨rfl, xs.toArray, 0, Heap.get?_push_size _ rfl, ?_, ?_⟩
  · simpa using hv.mono Wd.le_more
  · exact ⟨hl, S.fresh_lk hn0⟩

theorem mkL_sound {mt : Bool} {vs : List V} {xs : List Value} {r : Res V} {h : Heap} (S : SR prog ω K c w σ h) (B : Base K c mg mb) (hv : VRs K w vs xs) (hl : vs.length ≤ lim) (hm : mkL mt vs σ = some (r, σ')) :
    ∃ w' a, r = .ok a ∧ w.Le w' ∧ SR prog ω K c w' σ' (h.push { cls := .type "list", data := .seq xs.toArray }) ∧ VR K w' a (.ref h.objs.size) := by
  unfold mkL at hm
  split at hm
  · simp only [Option.some.injEq, Prod.mk.injEq] at hm
    obtain ⟨rfl, rfl⟩ := hm
    refine ⟨_, _, rfl, Wd.le_more, alloc_list S B hv hl, ?_⟩
    have := @VR.ref K (w.more (h.objs.size, h.objs.size)) σ.n (h.objs.size, h.objs.size) (by rw [S.len]; exact Wd.more_get)
    exact this
  · simp only [Option.some.injEq, Prod.mk.injEq] at hm
    obtain ⟨rfl, rfl⟩ := hm
    have hn0 := get_size h
    refine ⟨_, _, rfl, Wd.le_add S hn0, S.freeze hn0 (push_keeps h _) (Heap.get?_push_size _ rfl), .lst Wd.add_get rfl rfl ?_ hl⟩
    simpa using hv.mono (Wd.le_add S hn0)
theorem lim_size {k : Nat} (h : k ≤ lim) : k ≤ sizeLine := by unfold lim at h; unfold sizeLine; omega
theorem mkList_sound {mt : Bool} {vs : List V} {xs : List Value} {r : Res V} {h : Heap} (S : SR prog ω K c w σ h) (B : Base K c mg mb) (hv : VRs K w vs xs) (hm : mkList mt vs σ = some (r, σ')) :
    xs.length ≤ sizeLine ∧ ∃ w' a, r = .ok a ∧ w.Le w' ∧ SR prog ω K c w' σ' (h.push { cls := .type "list", data := .seq xs.toArray }) ∧ VR K w' a (.ref h.objs.size) := by
  unfold mkList at hm
  split at hm
  · rename_i hl
    exact ⟨by rw [← hv.length]; exact lim_size hl, mkL_sound S B hv hl hm⟩
  · cases hm

theorem sim_list {mt : Bool} {es : List E} {vs : List Expr} {pos : Pos} (h : Sims prog ω K mg mb P cl n cx es vs) : Sim prog ω K mg mb P cl n cx (.list mt es) (.List vs pos) := by
  have h : SimE prog ω K mg mb P cl n cx (.list mt es) (.List vs pos) := by
    intro hd c w ρ σ env envs A s r' σ' hev B S F hn hA
    rw [e_list] at hev
    refine wpAny_List (h.bind hev B S F hn hA (.refl _) (.refl _) fun x xv σ₁ w₁ s₁ hk hs hw _ S₁ hx => ?_)
    obtain ⟨hz, w', a, e, hw', S', hv⟩ := mkList_sound S₁ B hx hk
    exact ⟨hz, hs.trans (.ofH _ _), w', a, e, hw.trans hw', S', hv⟩
  exact ⟨h, h.simT fun _ _ => rfl⟩
theorem sim_tup {es : List E} {vs : List Expr} {k : Nat} {pos : Pos} (h : Sims prog ω K mg mb P cl n cx es vs) : Sim prog ω K mg mb P cl n cx (.tup es) (.Tuple vs k pos) := by
  have h : SimE prog ω K mg mb P cl n cx (.tup es) (.Tuple vs k pos) := by
    intro hd c w ρ σ env envs A s r' σ' hev B S F hn hA
    rw [e_tup] at hev
    refine wpAny_Tuple (h.bind hev B S F hn hA (.refl _) (.refl _) fun x xv σ₁ w₁ s₁ hk hs hw _ S₁ hx => ?_)
    split at hk
    · rename_i hl
      simp only [Option.some.injEq, Prod.mk.injEq] at hk
      obtain ⟨rfl, rfl⟩ := hk
      have hn0 := get_size s₁.heap
      refine ⟨by rw [← hx.length]; unfold lim at hl; unfold sizeLine; omega, hs.trans (.ofH _ _), _, _, rfl, hw.trans (Wd.le_add S₁ hn0), S₁.freeze hn0 (push_keeps s₁.heap _) (Heap.get?_push_size _ rfl), .tup Wd.add_get rfl rfl ?_ hl⟩
      simpa using hx.mono (Wd.le_add S₁ hn0)
    · cases hk
  exact ⟨h, h.simT fun _ _ => rfl⟩
end
end Lw
set_option autoImplicit false
namespace Lw
open PySem PySem.W PySem.Calls PyProof.Rows

theorem ofString_inj {a b : String} (h : Str.ofString a = Str.ofString b) : a = b := by
  rw [Str.ofString_eq_toList, Str.ofString_eq_toList] at h
  simp only [Str.mk.injEq, Array.mk.injEq] at h
  have h : a.toList.map Char.toNat = b.toList.map Char.toNat := by simpa using h
  have inj : ∀ (x y : List Char), x.map Char.toNat = y.map Char.toNat → x = y := by
    intro x
    induction x with
    | nil => intro y h; cases y with | nil => rfl | cons _ _ => simp at h
    | cons c r ih =>
      intro y h
      cases y with
      | nil => simp at h
      | cons d t =>
        simp only [List.map_cons, List.cons.injEq] at h
        have e : c = d := by
          have := h.1
          exact Char.ext (UInt32.toNat_inj.mp this)
        rw [e, ih t h.2]
  have := inj _ _ h
  exact String.toList_inj.mp this

section
variable {prog : Program} {ω : World} {K : Frag} {mg mb : Str → Option Value} {P : Prog} {cl : Cl} {n : Nat} {cx : Cxt}
  {hd : Bool} {c : Cx} {w : Wd} {ρ : Rho} {σ σ' : St} {env : Env} {envs : List Env} {A : Around} {s : Shared}

theorem wpAny_attributeBase {o : Expr} {attr : Str} {whole : Sem Value} {E : Value → Shared → Prop} {Q : Value → Shared → Prop} (hs : notSuper o = true) (h : wpAny (model prog ω) A whole Q E s) :
    wpAny (model prog ω) A (attributeBase o attr env whole) Q E s := by
  cases o with
  | Call f as ks p =>
    cases f with
    | Name id q =>
      rcases as with _ | ⟨a, as⟩
      · rcases ks with _ | ⟨k, ks⟩
        · have hid : (!(id == ("super" : Str))) = true := hs
          have e : attributeBase (.Call (.Name id q) [] [] p) attr env whole = (if (id != ("super" : Str) || attr == "__class__" || env.kindOf "super" != some .globalImplicit || env.kindOf "__class__" != some .free) = true then whole else attributeBase (.Call (.Name id q) [] [] p) attr env whole) := by
            split
            · rename_i h1
              unfold attributeBase
              exact if_pos h1
            · rfl
          rw [e, if_pos (by simp only [bne, hid, Bool.true_or])]
          exact h
        · exact h
      · exact h
    | _ => exact h
  | _ => exact h

theorem wpAny_Attr {value : Expr} {attr : Str} {pos : Pos} {E : Value → Shared → Prop} {Q : Value → Shared → Prop} (hs : notSuper value = true)
    (h : wpAny (model prog ω) A (eval value env) (fun o s₁ => wpAny (model prog ω) A (getAttr o attr true) Q E s₁) E s) : wpAny (model prog ω) A (eval (.Attribute value attr pos) env) Q E s := by
  have e : eval (.Attribute value attr pos) env = (do
    let o ← attributeBase value attr env (eval value env)
    standAt pos.atName
    let r ← holding [o] (getAttr o attr true)
    letTemporaryGo value o r
    pure r) := rfl
  rw [e]
  refine wpAny_bind (wpAny_attributeBase hs (wpAny_mono h (fun o s₁ q => wpAny_bind (wpAny_standAt (wpAny_bind (wpAny_holding (wpAny_mono q (fun r s₂ q => ?_) fun _ _ q => q))))) fun _ _ q => q))
  exact wpAny_bind (wpAny_letTemporaryGo (wpAny_pure q))

theorem fs_look {fs : List (String × V)} {es : List DictEntry} {k : Nat} (r : FsR ω K w fs es) (a : String) :
    (∀ v, lk fs a = some v → ∃ x, lookIn (Str.ofString a) (dictOf es k) = some (some x) ∧ VR K w v x) ∧ (lk fs a = none → lookIn (Str.ofString a) (dictOf es k) = some none) := by
  have norf : es.any (·.refKey) = false := by
    clear a
    induction r with
    | nil => rfl
    | cons _ _ ih => simp only [List.any_cons, ih, Bool.or_false]; rfl
  have key : (∀ v, lk fs a = some v → ∃ e, es.find? (fun e => e.key.isStr (Str.ofString a)) = some e ∧ VR K w v e.val) ∧ (lk fs a = none → es.find? (fun e => e.key.isStr (Str.ofString a)) = none) := by
    clear norf
    induction r with
    | nil => exact ⟨fun v e => by simp [lk] at e, fun _ => rfl⟩
    | @cons b v x t fs es hv _ ih =>
      by_cases h : b = a
      · subst h
        refine ⟨fun u e => ?_, fun e => by simp [lk] at e⟩
        simp [lk] at e; subst e
        exact ⟨⟨PyData.keyHash ω.params (Str.ofString b), .str (Str.ofString b) t, x⟩, by simp [Value.isStr], hv⟩
      · have e1 : lk ((b, v) :: fs) a = lk fs a := by simp [lk, h]
        have ne : (Str.ofString b == Str.ofString a) = false := by
          cases q : (Str.ofString b == Str.ofString a) with
          | false => rfl
          | true => exact absurd (ofString_inj (beq_iff_eq.mp q)) h
        have e2 : ∀ (d : DictEntry), d = ⟨PyData.keyHash ω.params (Str.ofString b), .str (Str.ofString b) t, x⟩ → (d :: es).find? (fun e => e.key.isStr (Str.ofString a)) = es.find? (fun e => e.key.isStr (Str.ofString a)) := by
          intro d hd; subst hd
          simp only [List.find?_cons, Value.isStr, ne]
        rw [e1, e2 _ rfl]; exact ih
  refine ⟨fun v e => ?_, fun e => ?_⟩
  · obtain ⟨d, q, hv⟩ := key.1 v e
    refine ⟨d.val, ?_, hv⟩
    unfold lookIn dictOf
    simp only [q]
  · unfold lookIn dictOf
    simp only [key.2 e]
    rw [norf]; rfl

theorem VR.handed {a : V} {x : Value} (h : VR K w a x) : handedIn x = true := by cases h <;> rfl

theorem clsOk_parts {attrs : List String} {C : Addr} (h : clsOk K attrs C = true) :
    findIn K (.ref C) "__getattribute__" = some (some (.builtin "object.__getattribute__")) ∧ findIn K (.ref C) "__getattr__" = some none ∧ hasDictIn K C = true ∧
    findIn K (.ref C) "__setattr__" = some (some (.builtin "object.__setattr__")) ∧ plainOver K C = true ∧ makesIn K C = true ∧ ∀ a ∈ attrs, findIn K (.ref C) (Str.ofString a) = some none := by
  unfold clsOk at h
  simp only [Bool.and_eq_true, beq_iff_eq, List.all_eq_true] at h
  obtain ⟨⟨⟨⟨⟨⟨a, b⟩, d⟩, e⟩, f⟩, g⟩, i⟩ := h
  exact ⟨a, b, d, e, f, g, i⟩

theorem attr_sound {o v : V} {x : Value} {a : String} {E : Value → Shared → Prop} {Q : Value → Shared → Prop} (B : Base K c mg mb) (S : SR prog ω K c w σ s.heap) (ho : VR K w o x) (ha : a ∈ c.an) (hv : attrV σ o a = some v)
    (h : ∀ y tk, VR K w v y → Q y { s with toks := tk }) : wpAny (model prog ω) A (getAttr x (Str.ofString a) true) Q E s := by
  unfold attrV at hv
  cases ho with
  | @ref i p hp =>
    dsimp only at hv
    split at hv
    · rename_i cn fs hg
      obtain ⟨q, hq, r⟩ := S.obj _ _ hg
      rw [hp] at hq; cases hq
      obtain ⟨_, hcn, C, es, k, hC, h1, h2, hfs, _⟩ := r
      obtain ⟨C', hC', hok⟩ := B.cls _ hcn
      rw [hC] at hC'; cases hC'
      obtain ⟨g1, g2, g3, g4, g5, g6, g7⟩ := clsOk_parts hok
      obtain ⟨y, hy, hvy⟩ := (fs_look (k := k) hfs a).1 v hv
      have I : InstAt s.heap p.1 (instObj C p.2) C (some (dictOf es k)) := ⟨h1, rfl, rfl, h2⟩
      refine get_value (B.kin S) I g1 ?_ hvy.handed (h y _ hvy)
      unfold hasDictIn at g3
      unfold findObj
      cases hcl : clsIn K C with
      | none => rw [hcl] at g3; simp at g3
      | some cd =>
        rw [hcl] at g3
        have g3' : cd.hasDict = true := by simpa using g3
        simp only [Option.bind_some, g7 a ha]
        unfold W.ownOf
        rw [if_pos g3']
        simp only [hy, Option.bind_some]
    · cases hv
  | _ => simp at hv

theorem sim_attr {o : E} {a : String} {l : Expr} {pos : Pos} (hs : notSuper l = true) (hat : cx.attrs.contains a = true) (ho : Sim prog ω K mg mb P cl n cx o l) : Sim prog ω K mg mb P cl n cx (.attr o a) (.Attribute l (Str.ofString a) pos) := by
  have h : SimE prog ω K mg mb P cl n cx (.attr o a) (.Attribute l (Str.ofString a) pos) := by
    intro hd c w ρ σ env envs A s r' σ' hev B S F hn hA
    rw [e_attr] at hev
    refine wpAny_Attr hs (ho.v.bind hev B S F hn hA fun x xv σ₁ w₁ s₁ hk hs hw S₁ hx => ?_)
    split at hk
    · rename_i v hv
      simp only [Option.some.injEq, Prod.mk.injEq] at hk
      obtain ⟨rfl, rfl⟩ := hk
      refine attr_sound B S₁ hx (by rw [← hn.attrs]; simpa using hat) hv fun y tk hy => ⟨hs.trans (.ofT _ _), w₁, _, rfl, hw, S₁, hy⟩
    · cases hk
  exact ⟨h, h.simT fun _ _ => rfl⟩

theorem place_seq {k : Int} {m j : Nat} (h : place k m = some j) : seqIndex? k m = some j ∧ j < m ∧ -(2 ^ 63) ≤ k ∧ k < 2 ^ 63 := by
  unfold place at h
  split at h
  · rename_i hb
    refine ⟨?_, ?_, by omega, by omega⟩
    · unfold seqIndex?
      split at h
      · rename_i h0
        split at h
        · rename_i h1
          cases h
          simp only [if_neg (show ¬ k < 0 by omega)]
          rw [if_pos (by simp only [Bool.and_eq_true, decide_eq_true_eq]; omega)]
        · cases h
      · rename_i h0
        split at h
        · rename_i h1
          cases h
          simp only [if_pos (show k < 0 by omega)]
          rw [if_pos (by simp only [Bool.and_eq_true, decide_eq_true_eq]; omega)]
        · cases h
    · split at h
      · split at h
        · cases h; omega
        · cases h
      · split at h
        · cases h; omega
        · cases h
  · cases h

theorem getItem_listAny {l : Addr} {items : Array Value} {k : Int} {t : Tok} {j : Nat} {x : Value} {E : Value → Shared → Prop} {Q : Value → Shared → Prop} (hl : s.heap.IsList l items) (hp : place k items.size = some j) (hx : items[j]? = some x) (h : Q x s) :
    wpAny (model prog ω) A (getItem (.ref l) (.int k t)) Q E s := by
  obtain ⟨e, hj, b1, b2⟩ := place_seq hp
  by_cases h0 : 0 ≤ k
  · refine wpAny_getItem_list hl h0 b2 ?_ h
    have : j = k.toNat := by
      unfold place at hp
      rw [if_pos h0] at hp
      split at hp
      · split at hp
        · cases hp; rfl
        · cases hp
      · cases hp
    rw [← this]; exact hx
  · have h0' : k < 0 := by omega
    unfold place at hp
    rw [if_neg h0] at hp
    split at hp
    · split at hp
      · rename_i h1
        cases hp
        exact wpAny_getItem_list_neg hl h0' (by omega) b1 hx h
      · cases hp
    · cases hp

theorem subs_plain {ie : Expr} {o i : Value} (h : notSliceE ie = true) : subscripted ie false o i = operate [o, i] (getItem o i) := by
  cases ie <;> first | rfl | (exact (Bool.false_ne_true h).elim)

theorem VRs.getArr {vs : List V} {xs : Array Value} {j : Nat} {v : V} (r : VRs K w vs xs.toList) (h : vs[j]? = some v) : ∃ x, xs[j]? = some x ∧ VR K w v x := by
  obtain ⟨x, e, hv⟩ := r.get h
  exact ⟨x, by simpa using e, hv⟩
theorem VRs.sizeArr {vs : List V} {xs : Array Value} (r : VRs K w vs xs.toList) : vs.length = xs.size := by rw [r.length]; simp

theorem strOk_at {x : Str} {j cp : Nat} (h : sOk x = true) (e : x.cps[j]? = some cp) : sOk ⟨#[cp]⟩ = true := by
  refine sOk_iff.mpr ⟨?_, by show 1 ≤ lim; decide⟩
  have h := (sOk_iff.mp h).1
  unfold PyData.strOk at *
  have := Array.all_eq_true.mp h
  obtain ⟨hj, e⟩ := Array.getElem?_eq_some_iff.mp e
  have := this j hj
  rw [e] at this
  simpa using this

theorem withInt_inv {α : Type} {v : V} {k : Int → Option α} {z : α} (h : withInt v k = some z) : ∃ i, v = .int i ∧ k i = some z := by
  unfold withInt at h
  split at h
  · exact ⟨_, rfl, h⟩
  · cases h
theorem withStr_inv {α : Type} {v : V} {k : Str → Option α} {z : α} (h : withStr v k = some z) : ∃ i, v = .str i ∧ k i = some z := by
  unfold withStr at h
  split at h
  · exact ⟨_, rfl, h⟩
  · cases h
theorem VR.refv {i : Nat} {x : Value} (h : VR K w (.ref i) x) : ∃ p, w.φ[i]? = some p ∧ x = .ref p.1 := by
  cases h with | ref e => exact ⟨_, e, rfl⟩
theorem SR.at (S : SR prog ω K c w σ s.heap) {i : Nat} {p : Addr × Addr} {o : O} (hp : w.φ[i]? = some p) (hg : σ.get i = some o) : ORel prog ω K c w s.heap p o := by
  obtain ⟨q, hq, rr⟩ := S.obj _ _ hg
  rw [hp] at hq; cases hq; exact rr

theorem idxV_sound {ve ie : Expr} {o i v : V} {x y : Value} {E : Value → Shared → Prop} {Q : Value → Shared → Prop} (hns : notSliceE ie = true) (S : SR prog ω K c w σ s.heap) (ho : VR K w o x) (hi : VR K w i y) (hv : idxV σ o i = some v)
    (h : ∀ z tk, VR K w v z → Q z { s with toks := tk }) : wpAny (model prog ω) A (subscriptTail ve ie x y) Q E s := by
  have list : ∀ {l : Addr} {xs : Array Value} {vs : List V}, s.heap.IsList l xs → VRs K w vs xs.toList → withInt i (at1 vs) = some v → wpAny (model prog ω) A (subscriptTail ve ie (.ref l) y) Q E s := fun hl e4 hv => by
    obtain ⟨k, rfl, hv1⟩ := withInt_inv hv
    obtain ⟨t, rfl⟩ := hi.intv
    obtain ⟨j, hp, hj⟩ := Option.bind_eq_some_iff.mp hv1
    rw [e4.sizeArr] at hp
    obtain ⟨z, hz, hvz⟩ := e4.getArr hj
    exact tail_any hl.typeIs slot_list_getitem.lookup (getItem_listAny hl hp hz (h z s.toks hvz)) (subs_plain hns)
  cases ho with
  | none => cases hv
  | bool => cases hv
  | int => cases hv
  | rng => cases hv
  | exc => cases hv
  | lst e1 e2 e3 e4 _ => exact list ⟨_, S.kg _ _ e1, e2, _, e3⟩ e4 hv
  | tup e1 e2 e3 e4 _ =>
    obtain ⟨k, rfl, hv1⟩ := withInt_inv hv
    obtain ⟨t, rfl⟩ := hi.intv
    obtain ⟨j, hp, hj⟩ := Option.bind_eq_some_iff.mp hv1
    rw [e4.sizeArr] at hp
    obtain ⟨z, hz, hvz⟩ := e4.getArr hj
    obtain ⟨q1, q2, q3, q4⟩ := place_seq hp
    have hl : IsTup s.heap _ _ := ⟨_, S.kg _ _ e1, e2, _, e3⟩
    exact item_tupleT (l := _) (by simpa using hl) q3 q4 (by simpa using q1) (by simpa using hz) (h z s.toks hvz) (subs_plain hns)
  | str t u k =>
    obtain ⟨i', rfl, hv1⟩ := withInt_inv hv
    obtain ⟨t', rfl⟩ := hi.intv
    obtain ⟨j, hp, hv2⟩ := Option.bind_eq_some_iff.mp hv1
    obtain ⟨cp, hc, rfl⟩ := Option.map_eq_some_iff.mp hv2
    obtain ⟨q1, q2, q3, q4⟩ := place_seq hp
    refine tail_any (typeIs_str s _ _) PySem.F.slot_str_getitem.lookup (PyProof.Rows.getItem_str (c := cp) ?_ ?_ (h _ _ (.str _ _ (strOk_at k hc)))) (subs_plain hns)
    · simp only [Bool.or_eq_false_iff, decide_eq_false_iff_not]; omega
    · show (seqIndex? _ t.cps.size).bind _ = _
      rw [q1]; exact hc
  | @ref r p hp =>
    obtain ⟨ob, hg, hv1⟩ := Option.bind_eq_some_iff.mp (show (σ.get r).bind (idxO i) = some v from hv)
    have rr := S.at hp hg
    cases ob with
    | inst => cases hv1
    | list lk' vs =>
      obtain ⟨_, xs, k, r1, r2, _⟩ := rr
      exact list ⟨_, r1, rfl, _, rfl⟩ r2 hv1
    | di lk' es =>
      obtain ⟨_, ob, kvs, r1, r2, r3, _⟩ := rr
      obtain ⟨k, rfl, hv2⟩ := withInt_inv hv1
      obtain ⟨tk, rfl⟩ := hi.intv
      obtain ⟨z, hz, hvz⟩ := (lk_valueAt r3 k).1 v hv2
      have hm : s.heap.MapOf (intKind prog ω) p.1 (valueAt kvs) := (Heap.dictOf_iff.mpr ⟨ob, r1, r2⟩).mapOf
      have hk : (intKind prog ω).is k (.int k tk) = true := by show Value.isInt k (.int k tk) = true; simp [Value.isInt]
      exact tail_any hm.typeIs slot_dict_getitem.lookup (wpAny_getItem_of hk hm hz (h z _ hvz)) (subs_plain hns)
    | ds lk' es =>
      obtain ⟨_, ob, kvs, r1, r2, r3, _⟩ := rr
      obtain ⟨k, rfl, hv2⟩ := withStr_inv hv1
      obtain ⟨tk, rfl, _⟩ := hi.strv
      obtain ⟨z, hz, hvz⟩ := (lk_valueAt r3 k).1 v hv2
      have hm : s.heap.MapOf (PySem.strKind prog ω) p.1 (valueAt kvs) := (Heap.dictOf_iff.mpr ⟨ob, r1, r2⟩).mapOf
      exact tail_any hm.typeIs slot_dict_getitem.lookup (wpAny_getItem_of (strKind_is prog ω k tk) hm hz (h z _ hvz)) (subs_plain hns)

theorem sim_idx {o i : E} {l j : Expr} {pos : Pos} (hns : notSliceE j = true) (ho : Sim prog ω K mg mb P cl n cx o l) (hi : Sim prog ω K mg mb P cl n cx i j) : Sim prog ω K mg mb P cl n cx (.idx o i) (.Subscript l j pos) := by
  have h : SimE prog ω K mg mb P cl n cx (.idx o i) (.Subscript l j pos) := by
    intro hd c w ρ σ env envs A s r' σ' hev B S F hn hA
    rw [e_idx] at hev
    refine Subscript_ (ho.v.bind hev B S F hn hA fun x xv σ₁ w₁ s₁ hk hs hw S₁ hx => ?_)
    refine hi.v.bind' hk B S₁ (F.mono hw) hn hA hs hw fun y yv σ₂ w₂ s₂ hk hs₂ hw₂ hw12 S₂ hy => ?_
    split at hk
    · rename_i v hv
      simp only [Option.some.injEq, Prod.mk.injEq] at hk
      obtain ⟨rfl, rfl⟩ := hk
      exact idxV_sound hns S₂ (hx.mono hw12) hy hv fun z tk hz => ⟨hs₂.trans (.ofT _ _), w₂, _, rfl, hw₂, S₂, hz⟩
    · cases hk
  exact ⟨h, h.simT fun _ _ => rfl⟩
end
end Lw
set_option autoImplicit false
namespace Lw
open PySem PySem.W PySem.Calls PyProof.Rows

structure Cx.Ge (c c' : Cx) : Prop where
  px : ∀ x o, c.px x = some o → c'.px x = some o
  fr : c'.fr = c.fr
  cn : c'.cn = c.cn
  an : c'.an = c.an

section
variable {prog : Program} {ω : World} {K : Frag} {mg mb : Str → Option Value} {P : Prog} {cl : Cl} {n : Nat} {cx : Cxt}
  {hd : Bool} {c c' : Cx} {w : Wd} {ρ : Rho} {σ σ' : St} {env : Env} {envs : List Env} {A : Around} {s : Shared}

theorem Base.ge (B : Base K c mg mb) (h : c.Ge c') : Base K c' mg mb where
  k a o e := h.px _ _ (B.k a o e)
  g := let ⟨o, e, x⟩ := B.g; ⟨o, h.px _ _ e, x⟩
  b := let ⟨o, e, x⟩ := B.b; ⟨o, h.px _ _ e, x⟩
  bi := B.bi
  nolim := let ⟨o, mc, e, x⟩ := B.nolim; ⟨o, mc, h.px _ _ e, x⟩
  cls := by rw [h.cn, h.an]; exact B.cls
theorem FR.ge {vis : List (Str × Nat)} (F : FR K c w env vis ρ) (h : c.Ge c') : FR K c' w env vis ρ where
  kind := F.kind
  glob := F.glob
  bi := F.bi
  ns := let ⟨o, m, a, r⟩ := F.ns; ⟨o, m, a.imp (fun q => by rw [h.fr]; exact q) (h.px _ _), r⟩
  cells x k v e1 e2 e3 := let ⟨a, o, y, p, q, r⟩ := F.cells x k v e1 e2 e3; ⟨a, o, y, p, h.px _ _ q, r⟩
theorem AOK.ge (H : AOK A n hd c envs) (h : c.Ge c') : AOK A n hd c' envs := ⟨H.handled, H.depth, H.units, H.frames, by rw [h.fr]; exact H.frs⟩
theorem Fits.ge (H : Fits cx c env) (h : c.Ge c') : Fits cx c' env := ⟨H.names, by rw [h.cn]; exact H.cls, by rw [h.an]; exact H.attrs, H.cells⟩
theorem Cx.ge_prot {a : Addr} {o : Obj} (hn : c.px a = none) : c.Ge (c.prot a o) := ⟨fun x ob e => by
  show (if x = a then some o else c.px x) = some ob
  split
  · rename_i q; subst q; rw [hn] at e; cases e
  · exact e, rfl, rfl, rfl⟩

noncomputable def SimP (prog : Program) (ω : World) (K : Frag) (mg mb : Str → Option Value) (P : Prog) (cl : Cl) (n : Nat) (cx : Cxt) (ir : E) (l : Option Expr) : Prop :=
  (l = none ∧ ir = .cNone) ∨ ∃ e, l = some e ∧ Sim prog ω K mg mb P cl n cx ir e

theorem SimP.bind' {α : Type} {a : E} {l : Option Expr} {k : V → St → Option (Res α × St)} {r : Res α} {R : Value → Shared → Prop} {w₀ : Wd} {s₀ : Shared} (ha : SimP prog ω K mg mb P cl n cx a l)
    (hev : bindM (ev P cl hd a ρ σ) k = some (r, σ')) (B : Base K c mg mb) (S : SR prog ω K c w σ s.heap) (F : FR K c w env cx.vis ρ) (hn : Fits cx c env) (hA : AOK A n hd c envs)
    (hs₀ : Same s₀ s) (hw₀ : w₀.Le w)
    (hk : ∀ x xv σ₁ w₁ s₁, k x σ₁ = some (r, σ') → Same s₀ s₁ → w₀.Le w₁ → w.Le w₁ → SR prog ω K c w₁ σ₁ s₁.heap → VR K w₁ x xv → R xv s₁) :
    wpAny (model prog ω) A (evalPart l env) R (QX prog ω K c w₀ envs s₀ r σ') s := by
  rcases ha with ⟨rfl, rfl⟩ | ⟨e, rfl, ha⟩
  · rw [evalPart_none]
    simp only [e_cNone, bindM] at hev
    exact wpAny_pure (hk _ _ _ _ _ hev hs₀ hw₀ (.refl _) S .none)
  · rw [evalPart_some]
    exact ha.v.bind' hev B S F hn hA hs₀ hw₀ hk

theorem clip_int {i : Int} {m a : Nat} (h : (if 0 ≤ i then some (min i.toNat m) else some (i + m).toNat) = some a) : clipAt m i = a ∧ a ≤ m := by
  unfold clipAt
  split at h <;> cases h
  · rw [if_neg (by omega)]; omega
  · rw [if_pos (by omega)]; omega
theorem clip_lo {lo : V} {lv : Value} {m a : Nat} (hv : VR K w lo lv) (h : clampLo lo m = some a) : ∃ p : Option Int, IsPart lv p ∧ p.elim 0 (clipAt m) = a ∧ a ≤ m ∧ ∃ q : Option (Int × Tok), lv = partValue q ∧ q.map (·.1) = p := by
  cases hv <;> simp only [clampLo, reduceCtorEq, Option.some.injEq] at h
  · subst h; exact ⟨none, .none, rfl, Nat.zero_le _, none, rfl, rfl⟩
  · rename_i i t
    obtain ⟨e1, e2⟩ := clip_int h
    exact ⟨some i, .int i t, e1, e2, some (i, t), rfl, rfl⟩
theorem clip_hi {hi : V} {lv : Value} {m a : Nat} (hv : VR K w hi lv) (h : clampHi hi m = some a) : ∃ p : Option Int, IsPart lv p ∧ p.elim m (clipAt m) = a ∧ a ≤ m ∧ ∃ q : Option (Int × Tok), lv = partValue q ∧ q.map (·.1) = p := by
  cases hv <;> simp only [clampHi, reduceCtorEq, Option.some.injEq] at h
  · subst h; exact ⟨none, .none, rfl, Nat.le_refl _, none, rfl, rfl⟩
  · rename_i i t
    obtain ⟨e1, e2⟩ := clip_int h
    exact ⟨some i, .int i t, e1, e2, some (i, t), rfl, rfl⟩

theorem cutL_eq {α : Type} (xs : List α) (a b : Nat) : cutL xs a b = (xs.drop a).take (b - a) := by unfold cutL; rw [List.drop_take]

theorem VRs.cut {vs : List V} {xs : List Value} (r : VRs K w vs xs) (a b : Nat) : VRs K w (cutL vs a b) (cutL xs a b) := (r.take b).drop a

theorem strIdx_plain (l u : Option Int) (m : Nat) : Builtin.Str.strSliceIndices l u 1 m = sliceRange ((l.elim 0 (clipAt m) : Nat) : Int) ((u.elim m (clipAt m) : Nat) : Int) 1 := by
  unfold Builtin.Str.strSliceIndices
  cases l <;> cases u <;> simp [clipAt_cast] 

theorem strOk_cut {x : Str} (a b : Nat) (h : sOk x = true) : sOk ⟨(cutL x.cps.toList a b).toArray⟩ = true := by
  obtain ⟨h1, h2⟩ := sOk_iff.mp h
  refine sOk_iff.mpr ⟨?_, ?_⟩
  · unfold PyData.strOk at *
    rw [← Array.all_toList] at *
    simp only [List.all_eq_true] at *
    intro y hy
    refine h1 y ?_
    unfold cutL at hy
    exact List.mem_of_mem_take (List.mem_of_mem_drop hy)
  · simp only [List.size_toArray]
    unfold cutL
    simp only [List.length_drop, List.length_take, Array.length_toList]
    omega

theorem sliceMade_post {x : Str} {t : Tok} {l u : Option (Int × Tok)} {Q : Value → Shared → Prop} (hx : sOk x = true)
    (h : ∀ t' tk, Q (.str ⟨(cutL x.cps.toList ((l.map (·.1)).elim 0 (clipAt x.cps.size)) ((u.map (·.1)).elim x.cps.size (clipAt x.cps.size))).toArray⟩ t') { s with toks := tk }) :
    (sliceMade x t l u none).post Q s := by
  have hpick : ((slicePicked x l u none).filterMap (x.cps[·]?)) = cutL x.cps.toList ((l.map (·.1)).elim 0 (clipAt x.cps.size)) ((u.map (·.1)).elim x.cps.size (clipAt x.cps.size)) := by
    unfold slicePicked
    show List.filterMap _ (Builtin.Str.strSliceIndices _ _ 1 x.cps.size) = _
    rw [strIdx_plain, sliceRange_one, pick_run, cutL_eq]
  have hlen : (slicePicked x l u none).length = ((u.map (·.1)).elim x.cps.size (clipAt x.cps.size)) - ((l.map (·.1)).elim 0 (clipAt x.cps.size)) := by
    unfold slicePicked
    show (Builtin.Str.strSliceIndices _ _ 1 x.cps.size).length = _
    rw [strIdx_plain, sliceRange_one]; simp
  unfold sliceMade
  split
  · rename_i hc
    simp only [Option.map_none, Option.getD_none, beq_self_eq_true, Bool.true_and, beq_iff_eq] at hc
    rw [hlen] at hc
    have hub : ((u.map (·.1)).elim x.cps.size (clipAt x.cps.size)) ≤ x.cps.size := by
      cases u with
      | none => exact Nat.le_refl _
      | some p => show clipAt _ _ ≤ _; unfold clipAt; omega
    have hc' : ((u.map (·.1)).elim x.cps.size (clipAt x.cps.size)) - ((l.map (·.1)).elim 0 (clipAt x.cps.size)) = x.cps.size := hc
    have := h t s.toks
    rw [cutL_eq, hc'] at this
    by_cases h0 : x.cps.size = 0
    · have e : x.cps = #[] := by simpa using h0
      show Q (.str x t) s
      have e2 : x = ⟨#[]⟩ := by cases x; simp at e; rw [e]
      rw [e] at this
      rw [e2]; simpa using this
    · have ha : ((l.map (·.1)).elim 0 (clipAt x.cps.size)) = 0 := by omega
      rw [ha] at this
      have e2 : (⟨((x.cps.toList.drop 0).take x.cps.size).toArray⟩ : Str) = x := by
        have : (x.cps.toList.drop 0).take x.cps.size = x.cps.toList := by simp [List.take_of_length_le]
        rw [this]
      rw [e2] at this
      exact this
  · rw [hpick]
    refine ⟨?_, h _ _⟩
    have := (sOk_iff.mp (strOk_cut ((l.map (·.1)).elim 0 (clipAt x.cps.size)) ((u.map (·.1)).elim x.cps.size (clipAt x.cps.size)) hx)).2
    exact lim_size this

theorem sliceV_sound {mt : Bool} {ve : Expr} {le he : Option Expr} {sp : Pos} {o lo hi : V} {x y z : Value} {r : Res V} {E : Value → Shared → Prop} {Q : Value → Shared → Prop} (B : Base K c mg mb) (S : SR prog ω K c w σ s.heap) (ho : VR K w o x) (hl : VR K w lo y) (hh : VR K w hi z)
    (hv : sliceV mt o lo hi σ = some (r, σ'))
    (h : ∀ v w' a h' tk, r = .ok a → w.Le w' → SR prog ω K c w' σ' h' → VR K w' a v → Q v { s with heap := h', toks := tk }) :
    wpAny (model prog ω) A (subscriptTail ve (.Slice le he none sp) x (.ref s.heap.objs.size)) Q E { s with heap := s.heap.push { cls := .type "slice", data := .fields #[y, z, .none] } } := by
  have S' : SR prog ω K c w σ (s.heap.push { cls := .type "slice", data := .fields #[y, z, .none] }) := S.keeps (push_keeps _ _)
  have hsl : (s.heap.push { cls := .type "slice", data := .fields #[y, z, .none] }).get? s.heap.objs.size = some { cls := .type "slice", data := .fields #[y, z, .none] } := Heap.get?_push_size _ rfl
  have lists : ∀ (l : Addr) (items : Array Value) (vs : List V), (s.heap.push { cls := .type "slice", data := .fields #[y, z, .none] }).IsList l items → VRs K w vs items.toList → vs.length ≤ lim →
      (match clampLo lo vs.length, clampHi hi vs.length with | some a, some b => mkL mt (cutL vs a b) σ | _, _ => none) = some (r, σ') →
      wpAny (model prog ω) A (subscriptTail ve (.Slice le he none sp) (.ref l) (.ref s.heap.objs.size)) Q E { s with heap := s.heap.push { cls := .type "slice", data := .fields #[y, z, .none] } } := by
    intro l items vs hL hvs hlim hm
    split at hm
    · rename_i a b ha hb
      rw [hvs.sizeArr] at ha hb
      obtain ⟨pl, ipl, epl, la, _⟩ := clip_lo hl ha
      obtain ⟨ph, iph, eph, lb, _⟩ := clip_hi hh hb
      refine tail_any hL.typeIs slot_list_getitem.lookup (wpAny_getItem_list_slice hL ⟨_, hsl, rfl, rfl⟩ ipl iph .none (by decide) ?_ (by rw [← hvs.sizeArr]; exact lim_size hlim)) rfl
      rw [slicePick_plain, epl, eph, ← cutL_eq]
      have hcl : (cutL vs a b).length ≤ lim := by unfold cutL; simp only [List.length_drop, List.length_take]; omega
      obtain ⟨w', q, e, hw', S2, hv2⟩ := mkL_sound S' B (hvs.cut a b) hcl hm
      exact h _ w' q _ s.toks e hw' S2 hv2
    · cases hm
  unfold sliceV at hv
  cases ho with
  | str t u k =>
    dsimp only at hv
    split at hv
    · rename_i a b ha hb
      simp only [Option.some.injEq, Prod.mk.injEq] at hv
      obtain ⟨rfl, rfl⟩ := hv
      obtain ⟨pl, _, epl, la, ql, eql, eql2⟩ := clip_lo hl ha
      obtain ⟨ph, _, eph, lb, qh, eqh, eqh2⟩ := clip_hi hh hb
      refine tail_any (typeIs_str _ _ _) PySem.F.slot_str_getitem.lookup (wpAny_getItem_str_slice (l := ql) (u := qh) (st := none) ⟨_, hsl, rfl, by rw [eql, eqh]; rfl⟩ rfl (sliceMade_post k fun t' tk => ?_)) rfl
      rw [eql2, eqh2, epl, eph]
      exact h _ w _ _ tk rfl (.refl _) S' (.str _ _ (strOk_cut a b k))
    · cases hv
  | lst e1 e2 e3 e4 e5 =>
    simp only [seqOf] at hv
    exact lists _ _ _ ⟨_, S'.kg _ _ e1, e2, _, e3⟩ e4 e5 hv
  | @ref i p hp =>
    simp only [seqOf] at hv
    split at hv
    · rename_i vs hvs
      split at hvs
      · rename_i lk' vs' hg
        cases hvs
        obtain ⟨q, hq, rr⟩ := S'.obj _ _ hg
        rw [hp] at hq; cases hq
        obtain ⟨_, xs, k, r1, r2, r3, _⟩ := rr
        exact lists _ _ _ ⟨_, r1, rfl, _, rfl⟩ r2 r3 hv
      · cases hvs
    · cases hv
  | _ => simp [seqOf] at hv

theorem sim_slice {mt : Bool} {o lo hi : E} {l : Expr} {le he : Option Expr} {sp pos : Pos} (ho : Sim prog ω K mg mb P cl n cx o l) (hlo : SimP prog ω K mg mb P cl n cx lo le) (hhi : SimP prog ω K mg mb P cl n cx hi he) :
    Sim prog ω K mg mb P cl n cx (.slice mt o lo hi) (.Subscript l (.Slice le he none sp) pos) := by
  have h : SimE prog ω K mg mb P cl n cx (.slice mt o lo hi) (.Subscript l (.Slice le he none sp) pos) := by
    intro hd c w ρ σ env envs A s r' σ' hev B S F hn hA
    rw [e_slice] at hev
    refine Subscript_ (ho.v.bind hev B S F hn hA fun x xv σ₁ w₁ s₁ hk hs hw S₁ hx => ?_)
    refine wpAny_Slice (hlo.bind' hk B S₁ (F.mono hw) hn hA hs hw fun y yv σ₂ w₂ s₂ hk hs₂ hw₂ hw12 S₂ hy => ?_)
    refine hhi.bind' hk B S₂ (F.mono hw₂) hn hA hs₂ hw₂ fun z zv σ₃ w₃ s₃ hk hs₃ hw₃ hw23 S₃ hz => ?_
    rw [evalPart_none]
    refine wpAny_pure ?_
    refine sliceV_sound (s := s₃) B S₃ ((hx.mono hw12).mono hw23) (hy.mono hw23) hz hk fun v w' a h' tk e hw' S' hv => ?_
    exact ⟨hs₃.trans (.of _ _ _), w', a, e, hw₃.trans hw', S', hv⟩
  exact ⟨h, h.simT fun _ _ => rfl⟩

theorem emptyDict_of {κ : Type} [DecidableEq κ] (knd : PySem.KeyKind prog ω κ) : ({ cls := .type "dict", data := .dict #[] } : Obj).IsDictOf knd [] :=
  ⟨#[], 0, ⟨rfl, rfl, rfl⟩, rfl, fun e he => by simp at he, by simpa using Pairs.nil, by simp⟩

theorem size_sys {h : Heap} (S : SR prog ω K c w σ h) (B : Base K c mg mb) : h.objs.size ≠ sysModules := by
  obtain ⟨o, e, _⟩ := B.g
  have := Heap.lt_size (S.kp _ _ e)
  have : mainGlobals < h.objs.size := this
  intro q; rw [q] at this; revert this; decide

end
end Lw
set_option autoImplicit false
namespace Lw
open PySem PySem.W PySem.Calls PyProof.Rows

section
variable {prog : Program} {ω : World} {K : Frag} {mg mb : Str → Option Value} {P : Prog} {cl : Cl} {n : Nat} {cx : Cxt}
  {hd : Bool} {c c' : Cx} {w w' : Wd} {ρ : Rho} {σ σ' : St} {env : Env} {envs : List Env} {A : Around} {s : Shared} {h h' : Heap} {d : Addr} {o : O} {ob : Obj}

theorem SR.adopt (S : SR prog ω K c w σ h) (hg : w.g d = none) (hpx : c.px d = none) (hlk : c.lk d = none) (hfr : ∀ q ∈ c.fr, q.1 ≠ d) (hφ : ∀ (i : Nat) (p : Addr × Addr), w.φ[i]? = some p → p.1 ≠ d ∧ p.2 ≠ d)
    (k : ∀ b x, b ≠ d → h.get? b = some x → h'.get? b = some x) (hsys : d ≠ sysModules) (hx : ∃ x, h'.get? d = some x) (r : ORel prog ω K c (w.more (d, d)) h' (d, d) o) : SR prog ω K c (w.more (d, d)) (σ.new o) h' where
  kg x ob e := k _ _ (fun q => by rw [q] at e; have e' : w.g d = some ob := e; rw [hg] at e'; cases e') (S.kg x ob e)
  kp x ob e := k _ _ (fun q => by rw [q, hpx] at e; cases e) (S.kp x ob e)
  kl x ob e := k _ _ (fun q => by rw [q, hlk] at e; cases e) (S.kl x ob e)
  kf q hq := let ⟨sl, e⟩ := S.kf q hq; ⟨sl, k _ _ (hfr q hq) e⟩
  len := by show σ.n + 1 = (w.φ ++ [(d, d)]).length; rw [S.len]; simp
  used := S.used
  obj i o' e := by
    change (if i = σ.n then some o else σ.f i) = some o' at e
    split at e
    · rename_i q; cases e; subst q; exact ⟨(d, d), by rw [S.len]; exact Wd.more_get, r⟩
    · obtain ⟨q, x, b⟩ := S.obj i o' e
      obtain ⟨n1, n2⟩ := hφ i q x
      exact ⟨q, Wd.le_more.get x, b.mono Wd.le_more fun b' y hb e => k _ _ (fun z => by subst z; rcases hb with hb | hb; exact n1 hb.symm; exact n2 hb.symm) e⟩
  out i q e := by
    change (w.φ ++ [(d, d)])[i]? = some q at e
    rw [List.getElem?_append] at e
    split at e
    · obtain ⟨x, b, d', f, ⟨o1, e1⟩, ⟨o2, e2⟩, y⟩ := S.out i q e
      obtain ⟨n1, n2⟩ := hφ i q e
      exact ⟨x, b, d', f, ⟨o1, k _ _ n1 e1⟩, ⟨o2, k _ _ n2 e2⟩, y⟩
    · have : q = (d, d) := by
        rcases List.getElem?_eq_some_iff.mp e with ⟨hl, e⟩
        simp at hl
        simp at e; exact e.symm
      subst this
      exact ⟨hg, hg, fun q hq => ⟨hfr q hq, hfr q hq⟩, hsys, hx, hx, hpx, hpx⟩
  apart i j q z hij ei ej := by
    have key : ∀ (i : Nat) (q : Addr × Addr), (w.φ ++ [(d, d)])[i]? = some q → (w.φ[i]? = some q) ∨ (i = w.φ.length ∧ q = (d, d)) := fun i q e => by
      rw [List.getElem?_append] at e
      split at e
      · exact .inl e
      · rename_i hl
        rcases List.getElem?_eq_some_iff.mp e with ⟨hl', e'⟩
        simp at hl'
        simp at e'; exact .inr ⟨by omega, e'.symm⟩
    rcases key i q ei with a | ⟨a, rfl⟩ <;> rcases key j z ej with b | ⟨b, rfl⟩
    · exact S.apart i j q z hij a b
    · obtain ⟨x, y⟩ := hφ i q a; exact ⟨x, x, y, y⟩
    · obtain ⟨x, y⟩ := hφ j z b; exact ⟨x.symm, y.symm, x.symm, y.symm⟩
    · omega

theorem SR.adoptG (S : SR prog ω K c w σ h) (hφ : ∀ (i : Nat) (p : Addr × Addr), w.φ[i]? = some p → p.1 ≠ d ∧ p.2 ≠ d) (hg : w.g d = none) (hna : ¬ w.na d) (hx : h.get? d = some ob) :
    w.Le (w.add d ob) ∧ SR prog ω K c (w.add d ob) σ h := by
  have le : w.Le (w.add d ob) := ⟨fun x o e => by
    show (if x = d then some ob else w.g x) = some o
    split
    · rename_i q; subst q; rw [hg] at e; cases e
    · exact e, List.prefix_refl _, rfl, fun x o q e => by
    change (if x = d then some ob else w.g x) = some o at e
    split at e
    · rename_i z; subst z; exact absurd q hna
    · exact e⟩
  refine ⟨le, ⟨fun x o e => ?_, S.kp, S.kl, S.kf, S.len, S.used, fun i o e => ?_, fun i p e => ?_, S.apart⟩⟩
  · change (if x = d then some ob else w.g x) = some o at e
    split at e
    · rename_i q; subst q; cases e; exact hx
    · exact S.kg x o e
  · obtain ⟨p, x, r⟩ := S.obj i o e; exact ⟨p, x, r.mono le fun _ _ _ q => q⟩
  · obtain ⟨x, b, r⟩ := S.out i p e
    obtain ⟨n1, n2⟩ := hφ i p e
    refine ⟨?_, ?_, r⟩
    · show (if p.1 = d then _ else _) = _; rw [if_neg n1]; exact x
    · show (if p.2 = d then _ else _) = _; rw [if_neg n2]; exact b

theorem SR.notin_prot {a : Addr} (S : SR prog ω K (c.prot a ob) w σ h) : ∀ (i : Nat) (p : Addr × Addr), w.φ[i]? = some p → p.1 ≠ a ∧ p.2 ≠ a := fun i p e => by
  obtain ⟨_, _, _, _, _, _, y, z⟩ := S.out i p e
  refine ⟨fun q => ?_, fun q => ?_⟩
  · rw [q, Cx.prot_get] at y; cases y
  · rw [q, Cx.prot_get] at z; cases z

theorem SR.newphi (S : SR prog ω K c w σ h) {a : Addr} (hn : h.get? a = none) : ∀ (i : Nat) (p : Addr × Addr), w.φ[i]? = some p → p.1 ≠ a ∧ p.2 ≠ a := fun i p e => by
  obtain ⟨_, _, _, _, ⟨o1, e1⟩, ⟨o2, e2⟩, _⟩ := S.out i p e
  refine ⟨fun q => ?_, fun q => ?_⟩
  · rw [q, hn] at e1; cases e1
  · rw [q, hn] at e2; cases e2

theorem SR.guard (S : SR prog ω K c w σ h) {a : Addr} (hn : h.get? a = none) (k : ∀ b x, h.get? b = some x → h'.get? b = some x) (ha : h'.get? a = some ob) : SR prog ω K (c.prot a ob) (w.mark a) σ h' :=
  ((S.keeps k).protect ha (S.newphi hn)).mark (.inl ⟨_, Cx.prot_get⟩)

theorem XP.unguard {a : Addr} {x : String} {s' : Shared} {e : Value} (hu : ∀ x, w.na x → c.Cov x) (hc : c.px a = none) (h : XP prog ω K (c.prot a ob) (w.mark a) σ' envs x s e s') : XP prog ω K c w σ' envs x s e s' := by
  obtain ⟨h0, ea, C, a0, B, w', h1, h2, h3, h4, h5, h6, h7, h8⟩ := h
  refine ⟨h0, ea, C, a0, B, w'.unmark w.na, h1, h2, h3.back, h4.unprotect (.inl hc) hu, h5, h6, fun b o e => h7 b o ?_, h8⟩
  exact (Cx.ge_prot hc).px _ _ e
theorem QX.unguard {α : Type} {a : Addr} {r : Res α} {s' : Shared} {e : Value} (hu : ∀ x, w.na x → c.Cov x) (hc : c.px a = none) (h : QX prog ω K (c.prot a ob) (w.mark a) envs s r σ' e s') : QX prog ω K c w envs s r σ' e s' := by
  obtain ⟨x, q, h⟩ := h; exact ⟨x, q, h.unguard hu hc⟩

inductive KeysR : List Str → List (Option Expr) → Prop
  | nil : KeysR [] []
  | cons {k : Str} {j : Nat} {p : Pos} {ks : List Str} {es : List (Option Expr)} : KeysR ks es → KeysR (k :: ks) (some (.Constant (.str k) j p) :: es)

inductive PairR (K : Frag) (w : Wd) : List Str → List V → List (Value × Value) → Prop
  | nil : PairR K w [] [] []
  | cons {k : Str} {t : Tok} {v : V} {x : Value} {ks : List Str} {vs : List V} {ps : List (Value × Value)} : VR K w v x → PairR K w ks vs ps → PairR K w (k :: ks) (v :: vs) ((.str k t, x) :: ps)
noncomputable def pairTrees (pos : Pos) (env : Env) : List (Option Expr) → List Expr → List (Sem Value × Sem Value)
  | some k :: ks, v :: vs => (eval k env, do let x ← eval v env; standAt pos; pure x) :: pairTrees pos env ks vs
  | _, _ => []
theorem pairTrees_shape {pos : Pos} : ∀ {ks : List Str} {kes : List (Option Expr)} {ves : List Expr}, KeysR ks kes →
    (evalEachOpt kes env).zip ((evalEach ves env).map fun v => do let x ← v; standAt pos; pure x) = (pairTrees pos env kes ves).map fun p => (some p.1, p.2)
  | _, _, _, .nil => by simp [evalEachOpt, pairTrees]
  | _, _, [], .cons r => by simp [evalEach, pairTrees]
  | _, _, v :: vs, .cons r => by
    have ih := pairTrees_shape (pos := pos) (ves := vs) r
    simp only [evalEachOpt, evalOpt, evalEach, List.map_cons, List.zip_cons_cons, pairTrees, ih]
theorem pairTrees_length {pos : Pos} : ∀ {ks : List Str} {kes : List (Option Expr)} {ves : List Expr}, KeysR ks kes → ks.length = ves.length → (pairTrees pos env kes ves).length = ks.length
  | _, _, _, .nil, _ => by simp [pairTrees]
  | _, _, [], .cons r, h => by simp at h
  | _, _, v :: vs, .cons r, h => by
    simp only [pairTrees, List.length_cons, pairTrees_length (pos := pos) (ves := vs) r (by simpa using h)]

theorem evalPairs_sound {pos : Pos} {ks : List Str} {kes : List (Option Expr)} {es : List E} {ves : List Expr} (hks : KeysR ks kes) (hes : Sims prog ω K mg mb P cl n cx es ves) (hlen : ks.length = ves.length) :
    ∀ (w w₀ : Wd) (σ σ' : St) (s s₀ : Shared) (r : Res (List V)), evs P cl hd es ρ σ = some (r, σ') → Base K c mg mb → SR prog ω K c w σ s.heap → FR K c w env cx.vis ρ → Fits cx c env → AOK A n hd c envs → Same s₀ s → w₀.Le w →
    wpAny (model prog ω) A (evalPairs (pairTrees pos env kes ves)) (fun ps s' => Same s₀ s' ∧ ∃ w' as, r = .ok as ∧ w₀.Le w' ∧ SR prog ω K c w' σ' s'.heap ∧ PairR K w' ks as ps) (QX prog ω K c w₀ envs s₀ r σ') s := by
  induction hks generalizing es ves with
  | nil =>
    cases hes with
    | cons => cases hlen
    | nil =>
    intro w w₀ σ σ' s s₀ r hev B S F hn hA hs hw
    simp only [evs, Option.some.injEq, Prod.mk.injEq] at hev
    obtain ⟨rfl, rfl⟩ := hev
    exact evalPairs_nil ⟨hs, w, _, rfl, hw, S, .nil⟩
  | @cons k j' p' ks' es' hk ih =>
    cases hes with
    | nil => cases hlen
    | @cons a e r' xs' hst ha hr =>
    intro w w₀ σ σ' s s₀ r hev B S F hn hA hs hw
    rw [evs] at hev
    simp only [pairTrees]
    refine evalPairs_cons (wpAny_Constant_str ?_)
    refine wpAny_bind (ha.v.bind' (s := { s with toks := s.toks + 1 }) hev B S F hn hA (hs.trans (.ofT _ _)) hw fun x xv σ₁ w₁ s₁ hk1 hs₁ hw₁ hww S₁ hx => wpAny_bind (wpAny_standAt (wpAny_pure ?_)))
    cases h1 : evs P cl hd r' ρ σ₁ with
    | none => rw [h1] at hk1; cases hk1
    | some q =>
      obtain ⟨ra, σ₂⟩ := q
      rw [h1] at hk1
      cases ra with
      | exc y =>
        simp only [bindM, Option.some.injEq, Prod.mk.injEq] at hk1
        obtain ⟨rfl, rfl⟩ := hk1
        refine wpAny_mono (ih hr (Nat.succ.inj hlen) w₁ w₀ σ₁ _ s₁ s₀ _ h1 B S₁ (F.mono hww) hn hA hs₁ hw₁) (fun v s₂ q => ?_) fun e s₂ q => ?_
        · obtain ⟨_, _, _, q, _⟩ := q; cases q
        · obtain ⟨z, q, h⟩ := q; cases q; exact ⟨_, rfl, h⟩
      | ok ys =>
        simp only [bindM, Option.some.injEq, Prod.mk.injEq] at hk1
        obtain ⟨rfl, rfl⟩ := hk1
        refine wpAny_mono (ih hr (Nat.succ.inj hlen) w₁ w₁ σ₁ _ s₁ s₁ _ h1 B S₁ (F.mono hww) hn hA (.refl _) (.refl _)) (fun v s₂ q => ?_) fun e s₂ q => ?_
        · obtain ⟨hs₂, w₂, as, q, hw₂, S₂, hv⟩ := q; cases q
          exact ⟨hs₁.trans hs₂, w₂, _, rfl, hw₁.trans hw₂, S₂, .cons (hx.mono hw₂) hv⟩
        · obtain ⟨z, q, _⟩ := q; cases q

theorem PairR.carries : ∀ {ks : List Str} {vs : List V} {ps : List (Value × Value)}, PairR K w ks vs ps → Carries (PySem.strKind prog ω) ps (ks.zip (ps.map (·.2)))
  | _, _, _, .nil => trivial
  | _, _, _, .cons (k := k) (t := t) _ r => ⟨strKind_is prog ω k t, rfl, r.carries⟩
theorem PairR.er : ∀ {ks : List Str} {vs : List V} {ps : List (Value × Value)}, PairR K w ks vs ps → ER K w (ks.zip vs) (ks.zip (ps.map (·.2)))
  | _, _, _, .nil => .nil
  | _, _, _, .cons a r => .cons a r.er
theorem PairR.lengths : ∀ {ks : List Str} {vs : List V} {ps : List (Value × Value)}, PairR K w ks vs ps → vs.length = ks.length ∧ ps.length = ks.length
  | _, _, _, .nil => ⟨rfl, rfl⟩
  | _, _, _, .cons a r => by simp [r.lengths.1, r.lengths.2]

theorem sim_dict {ks : List Str} {kes : List (Option Expr)} {es : List E} {ves : List Expr} {pos : Pos} (hk : KeysR ks kes) (hs : Sims prog ω K mg mb P cl n cx es ves) (hlen : ks.length = ves.length) (h0 : ks ≠ []) (h10 : ks.length < 10) (hnd : ks.Nodup) (hok : ∀ k ∈ ks, sOk k = true) :
    Sim prog ω K mg mb P cl n cx (.dict ks es) (.Dict kes ves pos) := by
  have h : SimE prog ω K mg mb P cl n cx (.dict ks es) (.Dict kes ves pos) := by
    intro hd c w ρ σ env envs A s r' σ' hev B S F hn hA
    rw [e_dict] at hev
    have hn0 := get_size s.heap
    have hpx := S.fresh_px hn0
    have S2 : SR prog ω K (c.prot s.heap.objs.size { cls := .type "dict", data := .dict #[] }) (w.mark s.heap.objs.size) σ (s.heap.push { cls := .type "dict", data := .dict #[] }) :=
      S.guard hn0 (push_keeps _ _) (Heap.get?_push_size _ rfl)
    have ge := Cx.ge_prot (c := c) (a := s.heap.objs.size) (o := { cls := .type "dict", data := .dict #[] }) hpx
    have pl := pairTrees_length (env := env) (pos := pos) (ves := ves) hk hlen
    refine wpAny_Dict_pairs (knd := PySem.strKind prog ω) (pairTrees_shape hk) (by intro q; rw [q] at pl; exact h0 (List.length_eq_zero_iff.mp pl.symm)) (by rw [pl]; omega) ?_
    cases h1 : evs P cl hd es ρ σ with
    | none => rw [h1] at hev; cases hev
    | some q =>
      obtain ⟨ra, σ₁⟩ := q
      rw [h1] at hev
      have F2 : FR K (c.prot s.heap.objs.size { cls := .type "dict", data := .dict #[] }) (w.mark s.heap.objs.size) env cx.vis ρ := by
        have F' := F.ge ge
        exact ⟨F'.kind, F'.glob, F'.bi, (let ⟨o, m, a, b, d⟩ := F'.ns; ⟨o, m, a, b, fun x k v e1 e2 e3 => let ⟨y, p, q⟩ := d x k v e1 e2 e3; ⟨y, p, q.mono0 Wd.sub_mark⟩⟩), fun x k v e1 e2 e3 => let ⟨a, o, y, p, q, r, z⟩ := F'.cells x k v e1 e2 e3; ⟨a, o, y, p, q, r, z.mono0 Wd.sub_mark⟩⟩
      have key := evalPairs_sound (s := { s with heap := s.heap.push { cls := .type "dict", data := .dict #[] } }) (pos := pos) (env := env) (A := A) (envs := envs) (ρ := ρ) hk hs hlen (w.mark s.heap.objs.size) (w.mark s.heap.objs.size) σ _ s _ h1 (B.ge ge) S2 F2 (hn.ge ge) (hA.ge ge) (.ofH _ _) (.refl _)
      cases ra with
      | exc y =>
        simp only [bindM, Option.some.injEq, Prod.mk.injEq] at hev
        obtain ⟨rfl, rfl⟩ := hev
        refine wpAny_mono key (fun v s₂ q => ?_) fun e s₂ q => ?_
        · obtain ⟨_, _, _, q, _⟩ := q; cases q
        · have := QX.unguard S.used hpx q
          obtain ⟨z, q, h⟩ := this; cases q; exact ⟨_, rfl, h⟩
      | ok ys =>
        simp only [bindM, Option.some.injEq, Prod.mk.injEq] at hev
        obtain ⟨rfl, rfl⟩ := hev
        refine wpAny_mono key (fun ps s₂ q => ?_) fun e s₂ q => ?_
        · obtain ⟨hs₂, w₂, as, q, hw₂, S₃, hv⟩ := q; cases q
          have hd2 : s₂.heap.get? s.heap.objs.size = some { cls := .type "dict", data := .dict #[] } := S₃.kp _ _ Cx.prot_get
          refine ⟨ks.zip (ps.map (·.2)), hv.carries, Heap.dictOf_iff.mpr ⟨_, hd2, emptyDict_of _⟩, fun h' hD hS => ?_⟩
          have hmk : ((ks.zip (ps.map (·.2))).map (·.1)) = ks := by
            rw [List.map_fst_zip]; simp [hv.lengths.2]
          rw [merged_nil_of_nodup _ (by rw [hmk]; exact hnd)] at hD
          obtain ⟨o', ho', hdo⟩ := Heap.dictOf_iff.mp hD
          have S₄ := S₃.unprotect (f := w.na) (.inl hpx) S.used
          have hg2 : w₂.g s.heap.objs.size = none := hw₂.unfrozen (S.fresh_g hn0)
          have hla := hv.lengths
          refine ⟨hs₂.trans (.of _ _ _), (w₂.unmark w.na).more (s.heap.objs.size, s.heap.objs.size), _, rfl, hw₂.back.trans Wd.le_more, ?_, ?_⟩
          · refine S₄.adopt hg2 hpx (S.fresh_lk hn0) (S.fresh_fr hn0) S₃.notin_prot (fun b x hb e => (hS.2 b hb).trans e) (size_sys S B) ⟨_, ho'⟩ ⟨rfl, o', _, ho', hdo, ?_, ?_, ?_, S.fresh_lk hn0⟩
            · exact (hv.er.mono0 Wd.sub_unmark).mono Wd.le_more
            · intro kv hkv
              exact hok _ (List.of_mem_zip hkv).1
            · simp only [List.length_zip]; unfold lim; omega
          · have := @VR.ref K ((w₂.unmark w.na).more (s.heap.objs.size, s.heap.objs.size)) σ₁.n (s.heap.objs.size, s.heap.objs.size) (by rw [S₄.len]; exact Wd.more_get)
            exact this
        · obtain ⟨z, q, _⟩ := q; cases q
  exact ⟨h, h.simT fun _ _ => rfl⟩
end
end Lw
set_option autoImplicit false
namespace Lw
open PySem PySem.W PySem.Calls PyProof.Rows

section
variable (prog : Program) (ω : World) (K : Frag) (mg mb : Str → Option Value) (P : Prog) (cl : Cl) (n : Nat) (cx : Cxt)
inductive SimKs : List String → List E → List Keyword → Prop
  | nil : SimKs [] [] []
  | cons {x : String} {a : E} {e : Expr} {p : Pos} {xs : List String} {r : List E} {ks : List Keyword} : Sim prog ω K mg mb P cl n cx a e → SimKs xs r ks → SimKs (x :: xs) (a :: r) (⟨some (Str.ofString x), e, p⟩ :: ks)
end

section
variable {prog : Program} {ω : World} {K : Frag} {mg mb : Str → Option Value} {P : Prog} {cl : Cl} {n : Nat} {cx : Cxt}
  {hd : Bool} {c : Cx} {w : Wd} {ρ : Rho} {σ σ' : St} {env : Env} {envs : List Env} {A : Around} {s : Shared} {M : Model}

theorem Sims.trees {es : List E} {xs : List Expr} (h : Sims prog ω K mg mb P cl n cx es xs) (pos : Pos) : backTo pos (starEach xs env) = xs.map fun e => (false, eval e env) := by
  induction h with
  | nil => rfl
  | cons hst _ _ ih =>
    rw [star_plain hst]
    unfold backTo at *
    rw [List.map_cons, ih]
    rfl
theorem SimKs.trees {xs : List String} {es : List E} {ks : List Keyword} (h : SimKs prog ω K mg mb P cl n cx xs es ks) (pos : Pos) :
    (backToKw pos (keywordEach ks env)).all (·.1.isSome) = true ∧ (backToKw pos (keywordEach ks env)).any (·.1.isNone) = false ∧ (backToKw pos (keywordEach ks env)).filterMap (·.1) = xs.map Str.ofString := by
  induction h with
  | nil => exact ⟨rfl, rfl, rfl⟩
  | cons _ _ ih =>
    obtain ⟨a, b, d⟩ := ih
    unfold backToKw at *
    simp only [keywordEach, List.map_cons, List.all_cons, List.any_cons, List.filterMap_cons, Option.isSome_some, Option.isNone_some, Bool.true_and, Bool.false_or, a, b, d]
    exact ⟨trivial, trivial, trivial⟩

theorem evk_sound {pos : Pos} {xs : List String} {es : List E} {ks : List Keyword} (h : SimKs prog ω K mg mb P cl n cx xs es ks) :
    ∀ (w w₀ : Wd) (σ σ' : St) (s s₀ : Shared) (r : Res (List V)), evs P cl hd es ρ σ = some (r, σ') → Base K c mg mb → SR prog ω K c w σ s.heap → FR K c w env cx.vis ρ → Fits cx c env → AOK A n hd c envs → Same s₀ s → w₀.Le w →
    wpAny (model prog ω) A (evalAll ((backToKw pos (keywordEach ks env)).map (·.2))) (QVs prog ω K c w₀ s₀ r σ') (QX prog ω K c w₀ envs s₀ r σ') s := by
  induction h with
  | nil =>
    intro w w₀ σ σ' s s₀ r hev B S F hn hA hs hw
    simp only [evs, Option.some.injEq, Prod.mk.injEq] at hev
    obtain ⟨rfl, rfl⟩ := hev
    exact wpAny_evalAll_nil ⟨hs, w, _, rfl, hw, S, .nil⟩
  | @cons x' a e p xs' r' ks' ha hr ih =>
    intro w w₀ σ σ' s s₀ r hev B S F hn hA hs hw
    rw [evs] at hev
    refine wpAny_evalAll_cons (wpAny_bind (ha.v.bind' hev B S F hn hA hs hw fun x xv σ₁ w₁ s₁ hk hs₁ hw₁ hww S₁ hx => wpAny_bind (wpAny_standAt (wpAny_pure ?_))))
    cases h1 : evs P cl hd r' ρ σ₁ with
    | none => rw [h1] at hk; cases hk
    | some q =>
      obtain ⟨ra, σ₂⟩ := q
      rw [h1] at hk
      cases ra with
      | exc y =>
        simp only [bindM, Option.some.injEq, Prod.mk.injEq] at hk
        obtain ⟨rfl, rfl⟩ := hk
        refine wpAny_mono (ih w₁ w₀ σ₁ _ s₁ s₀ _ h1 B S₁ (F.mono hww) hn hA hs₁ hw₁) (fun v s₂ q => ?_) fun e s₂ q => ?_
        · obtain ⟨_, _, _, q, _⟩ := q; cases q
        · obtain ⟨z, q, h⟩ := q; cases q; exact ⟨_, rfl, h⟩
      | ok ys =>
        simp only [bindM, Option.some.injEq, Prod.mk.injEq] at hk
        obtain ⟨rfl, rfl⟩ := hk
        refine wpAny_mono (ih w₁ w₁ σ₁ _ s₁ s₁ _ h1 B S₁ (F.mono hww) hn hA (.refl _) (.refl _)) (fun v s₂ q => ?_) fun e s₂ q => ?_
        · obtain ⟨hs₂, w₂, as, q, hw₂, S₂, hv⟩ := q; cases q
          exact ⟨hs₁.trans hs₂, w₂, _, rfl, hw₁.trans hw₂, S₂, .cons (hx.mono hw₂) hv⟩
        · obtain ⟨z, q, _⟩ := q; cases q

theorem SimKs.bind {α : Type} {xs : List String} {es : List E} {ks : List Keyword} {pos : Pos} {k : List V → St → Option (Res α × St)} {r : Res α} {R : List Value → Shared → Prop} {w₀ : Wd} {s₀ : Shared} (ha : SimKs prog ω K mg mb P cl n cx xs es ks)
    (hev : bindM (evs P cl hd es ρ σ) k = some (r, σ')) (B : Base K c mg mb) (S : SR prog ω K c w σ s.heap) (F : FR K c w env cx.vis ρ) (hn : Fits cx c env) (hA : AOK A n hd c envs)
    (hs₀ : Same s₀ s) (hw₀ : w₀.Le w)
    (hk : ∀ x xv σ₁ w₁ s₁, k x σ₁ = some (r, σ') → Same s₀ s₁ → w₀.Le w₁ → w.Le w₁ → SR prog ω K c w₁ σ₁ s₁.heap → VRs K w₁ x xv → R xv s₁) :
    wpAny (model prog ω) A (evalAll ((backToKw pos (keywordEach ks env)).map (·.2))) R (QX prog ω K c w₀ envs s₀ r σ') s := by
  unfold bindM at hev
  split at hev
  · cases hev
  · rename_i x σ₁ h1
    cases hev
    refine wpAny_mono (evk_sound (pos := pos) ha w w₀ σ _ s s₀ _ h1 B S F hn hA hs₀ hw₀) (fun v s₁ q => ?_) fun e s₁ q => ?_
    · obtain ⟨_, _, _, q, _⟩ := q; cases q
    · obtain ⟨y, q, h⟩ := q; cases q; exact ⟨_, rfl, h⟩
  · rename_i x σ₁ h1
    refine wpAny_mono (evk_sound (pos := pos) ha w w σ _ s s _ h1 B S F hn hA (.refl _) (.refl _)) (fun v s₁ q => ?_) fun e s₁ q => ?_
    · obtain ⟨hs, w₁, y, q, hw, S₁, hv⟩ := q; cases q
      exact hk _ _ _ _ _ hev (hs₀.trans hs) (hw₀.trans hw) hw S₁ hv
    · obtain ⟨y, q, _⟩ := q; cases q

noncomputable def KeepsK (prog : Program) (ω : World) (K : Frag) (f : Value) : Prop := ∀ h, K.In h → ∃ k, (k = Keeper.frame ∨ k = Keeper.machine ∨ k = Keeper.boundFrame) ∧ Looks (model prog ω) h (keeperOf f) k
theorem keeps_builtin {id : String} : KeepsK prog ω K (.builtin id) := fun _ _ => ⟨.machine, .inr (.inl rfl), Looks.of_pure rfl⟩
theorem keeps_type {T : String} : KeepsK prog ω K (.type T) := fun _ _ => ⟨.machine, .inr (.inl rfl), Looks.of_pure rfl⟩
theorem keeps_in {f : Value} (h : keepIn K f = true) : KeepsK prog ω K f := fun _ X => keeps_K h _ X

theorem callWith_sound {α : Type} {f : Value} {first : List Value} {pos : Pos} {es : List E} {xs : List Expr} {kn : List String} {kes : List E} {ks : List Keyword} {k : List V → List V → St → Option (Res α × St)} {r : Res α} {R : Value → Shared → Prop} {w₀ : Wd} {s₀ : Shared}
    (hkeep : KeepsK prog ω K f) (ha : Sims prog ω K mg mb P cl n cx es xs) (hks : SimKs prog ω K mg mb P cl n cx kn kes ks)
    (hev : bindM (evs P cl hd es ρ σ) (fun vs σ => bindM (evs P cl hd kes ρ σ) (fun us σ => k vs us σ)) = some (r, σ')) (B : Base K c mg mb) (S : SR prog ω K c w σ s.heap) (F : FR K c w env cx.vis ρ) (hn : Fits cx c env) (hA : AOK A n hd c envs)
    (hs₀ : Same s₀ s) (hw₀ : w₀.Le w)
    (hk : ∀ vs us xv yv σ₁ w₁ s₁, k vs us σ₁ = some (r, σ') → Same s₀ s₁ → w₀.Le w₁ → w.Le w₁ → SR prog ω K c w₁ σ₁ s₁.heap → VRs K w₁ vs xv → VRs K w₁ us yv →
      wpAny (model prog ω) A (call f (first ++ xv) ((kn.map Str.ofString).zip yv)) R (QX prog ω K c w₀ envs s₀ r σ') s₁) :
    wpAny (model prog ω) A (callWith pos f first (backTo pos (starEach xs env)) (backToKw pos (keywordEach ks env))) R (QX prog ω K c w₀ envs s₀ r σ') s := by
  obtain ⟨t1, t2, t3⟩ := hks.trees (env := env) pos
  have hplain : ((backTo pos (starEach xs env)).any (·.1) || (backToKw pos (keywordEach ks env)).any (·.1.isNone)) = false := by
    rw [t2, ha.trees pos]; simp
  refine callWith_of (P := K.In) hplain hkeep ?_
  have key : wpAny (model prog ω) A (spliced (backTo pos (starEach xs env))) (fun vs s₁ => wpAny (model prog ω) A (evalAll ((backToKw pos (keywordEach ks env)).map (·.2))) (fun us s₂ => K.In s₂.heap ∧ wpAny (model prog ω) A (call f (first ++ vs) ((kn.map Str.ofString).zip us)) R (QX prog ω K c w₀ envs s₀ r σ') s₂) (QX prog ω K c w₀ envs s₀ r σ') s₁) (QX prog ω K c w₀ envs s₀ r σ') s := by
    refine ha.bind hev B S F hn hA hs₀ hw₀ fun vs xv σ₁ w₁ s₁ h1 hs₁ hw₁ hww S₁ hv => ?_
    refine hks.bind h1 B S₁ (F.mono hww) hn hA hs₁ hw₁ fun us yv σ₂ w₂ s₂ h2 hs₂ hw₂ hw12 S₂ hu => ?_
    exact ⟨B.kin S₂, hk vs us xv yv σ₂ w₂ s₂ h2 hs₂ hw₂ (hww.trans hw12) S₂ (hv.mono hw12) hu⟩
  rw [← t3] at key
  cases xs with
  | nil =>
    cases ha
    refine evalArgs_kw_nil t1 ?_
    simp only [evs, bindM] at hev
    refine hks.bind hev B S F hn hA hs₀ hw₀ fun us yv σ₂ w₂ s₂ h2 hs₂ hw₂ hw12 S₂ hu => ?_
    rw [t3]
    exact ⟨B.kin S₂, hk [] us [] yv σ₂ w₂ s₂ h2 hs₂ hw₂ hw12 S₂ .nil hu⟩
  | cons e rest =>
    cases ha with
    | cons hst _ _ =>
      have e1 : backTo pos (starEach (e :: rest) env) = (false, eval e env) :: backTo pos (starEach rest env) := by rw [star_plain hst]; rfl
      rw [e1] at key ⊢
      exact evalArgs_kw t1 key

theorem callName_sound {α : Type} {x : Str} {p pos : Pos} {f : Value} {es : List E} {xs : List Expr} {kn : List String} {kes : List E} {ks : List Keyword} {k : List V → List V → St → Option (Res α × St)} {r : Res α} {R : Value → Shared → Prop}
    (hname : ∀ {Q : Value → Shared → Prop} {E : Value → Shared → Prop}, Q f s → wpAny (model prog ω) A (eval (.Name x p) env) Q E s)
    (hkeep : KeepsK prog ω K f) (ha : Sims prog ω K mg mb P cl n cx es xs) (hks : SimKs prog ω K mg mb P cl n cx kn kes ks)
    (hev : bindM (evs P cl hd es ρ σ) (fun vs σ => bindM (evs P cl hd kes ρ σ) (fun us σ => k vs us σ)) = some (r, σ')) (B : Base K c mg mb) (S : SR prog ω K c w σ s.heap) (F : FR K c w env cx.vis ρ) (hn : Fits cx c env) (hA : AOK A n hd c envs)
    (hk : ∀ vs us xv yv σ₁ w₁ s₁, k vs us σ₁ = some (r, σ') → Same s s₁ → w.Le w₁ → SR prog ω K c w₁ σ₁ s₁.heap → VRs K w₁ vs xv → VRs K w₁ us yv →
      wpAny (model prog ω) A (call f xv ((kn.map Str.ofString).zip yv)) R (QX prog ω K c w envs s r σ') s₁) :
    wpAny (model prog ω) A (eval (.Call (.Name x p) xs ks pos) env) R (QX prog ω K c w envs s r σ') s :=
  wpAny_Call_Name_kw (hname (callWith_sound hkeep ha hks hev B S F hn hA (.refl _) (.refl _) fun vs us xv yv σ₁ w₁ s₁ h1 h2 h3 _ h5 h6 h7 => hk vs us xv yv σ₁ w₁ s₁ h1 h2 h3 h5 h6 h7))

theorem wpAny_Call_Attr {o : Expr} {name : Str} {apos pos : Pos} {xs : List Expr} {es : List E} {kn : List String} {kes : List E} {ks : List Keyword} {Q E : Value → Shared → Prop} (hsup : notSuper o = true) (hpos : (apos.endLine == pos.line) = true)
    (ha : Sims prog ω K mg mb P cl n cx es xs) (hks : SimKs prog ω K mg mb P cl n cx kn kes ks) (hl : xs.length < 10) (hl2 : ks.length < 5)
    (h : wpAny (model prog ω) A (eval o env) (fun ov s₁ => ∀ pl, wpAny (model prog ω) A (getMethod ov name pl) (fun fx s₂ => wpAny (model prog ω) A (callWith pos fx.1 fx.2 (backTo pos (starEach xs env)) (backToKw pos (keywordEach ks env))) Q E s₂) E s₁) E s) :
    wpAny (model prog ω) A (eval (.Call (.Attribute o name apos) xs ks pos) env) Q E s := by
  rw [arm_eval_Call]
  obtain ⟨t1, t2, t3⟩ := hks.trees (env := env) pos
  have hf : methodCallForm (xs.length + ks.length) (backTo pos (starEach xs env)) (backToKw pos (keywordEach ks env)) = true := by
    unfold methodCallForm
    rw [t1, ha.trees pos]
    simp only [List.all_map, Function.comp_def, Bool.not_false, Bool.and_true, List.all_eq_true, implies_true, Bool.and_eq_true, decide_eq_true_eq, true_and]
    split <;> omega
  refine wpAny_bind (wpAny_attributeBase hsup (wpAny_mono h (fun ov s₁ q => wpAny_bind (wpAny_standAt ?_)) fun _ _ q => q))
  unfold methodCall
  rw [hf]
  unfold calleeOf methodCallPos
  simp only [hpos, Bool.not_true, Bool.false_or, if_true]
  refine wpAny_bind (wpAny_holding (wpAny_mono (q _) (fun fx s₂ q => ?_) fun _ _ q => q))
  exact wpAny_bind (wpAny_pure q)
end
end Lw
set_option autoImplicit false
namespace Lw
open PySem PySem.W PySem.Calls PyProof.Rows

noncomputable def bfVal : Bf → Value
  | .len => .builtin "len" | .sorted _ => .builtin "sorted" | .range => .type "range" | .min => .builtin "min" | .max => .builtin "max" | .abs => .builtin "abs"
  | .int => .type "int" | .list => .type "list" | .tuple => .type "tuple"

section
variable {prog : Program} {ω : World} {K : Frag} {mg mb : Str → Option Value} {P : Prog} {cl : Cl} {n : Nat} {cx : Cxt}
  {hd : Bool} {c : Cx} {w : Wd} {ρ : Rho} {σ σ' : St} {env : Env} {envs : List Env} {A : Around} {s : Shared} {M : Model}

theorem lim63 {k : Nat} (h : k ≤ lim) : (k : Int) < 2 ^ 63 := by unfold lim at h; omega

theorem seqOf_sound {v : V} {x : Value} {vs : List V} {h : Heap} (S : SR prog ω K c w σ h) (hv : VR K w v x) (hq : seqOf σ v = some vs) : ∃ l xs, x = .ref l ∧ h.IsList l xs ∧ VRs K w vs xs.toList ∧ vs.length ≤ lim := by
  unfold seqOf at hq
  cases hv with
  | lst e1 e2 e3 e4 e5 => cases hq; exact ⟨_, _, rfl, ⟨_, S.kg _ _ e1, e2, _, e3⟩, e4, e5⟩
  | @ref i p hp =>
    dsimp only at hq
    split at hq
    · rename_i lk' vs' hg
      cases hq
      obtain ⟨q, hq, rr⟩ := S.obj _ _ hg
      rw [hp] at hq; cases hq
      obtain ⟨_, xs, k, r1, r2, r3, _⟩ := rr
      exact ⟨_, xs, rfl, ⟨_, r1, rfl, _, rfl⟩, r2, r3⟩
    · cases hq
  | _ => simp at hq

theorem freeze_rng {a b k : Int} {t u v : Tok} {h : Heap} (S : SR prog ω K c w σ h) :
    ∃ w', w.Le w' ∧ SR prog ω K c w' σ (h.push { cls := .type "range", data := .fields #[.int a t, .int b u, .int k v] }) ∧ VR K w' (.rng a b k) (.ref h.objs.size) := by
  have hn0 := get_size h
  exact ⟨_, Wd.le_add S hn0, S.freeze hn0 (push_keeps h _) (Heap.get?_push_size _ rfl), .rng Wd.add_get ⟨t, u, v, rfl⟩⟩

theorem ER.length {κ : Type} {es : List (κ × V)} {kvs : List (κ × Value)} (r : ER K w es kvs) : es.length = kvs.length := by
  induction r with
  | nil => rfl
  | cons _ _ ih => simp [ih]

theorem arg1_inv {α : Type} {args : List V} {k : V → Option α} {z : α} (h : arg1 args k = some z) : ∃ a, args = [a] ∧ k a = some z := by
  unfold arg1 at h
  split at h
  · exact ⟨_, rfl, h⟩
  · cases h
theorem arg2_inv {α : Type} {args : List V} {k : V → V → Option α} {z : α} (h : arg2 args k = some z) : ∃ a b, args = [a, b] ∧ k a b = some z := by
  unfold arg2 at h
  split at h
  · exact ⟨_, _, rfl, h⟩
  · cases h
theorem withRef_inv {α : Type} {v : V} {k : Nat → Option α} {z : α} (h : withRef v k = some z) : ∃ i, v = .ref i ∧ k i = some z := by
  unfold withRef at h
  split at h
  · exact ⟨_, rfl, h⟩
  · cases h
theorem VRs.one {v : V} {xs : List Value} (h : VRs K w [v] xs) : ∃ x, xs = [x] ∧ VR K w v x := by
  cases h with | cons a r => cases r; exact ⟨_, rfl, a⟩
theorem VRs.two {u v : V} {xs : List Value} (h : VRs K w [u, v] xs) : ∃ x y, xs = [x, y] ∧ VR K w u x ∧ VR K w v y := by
  cases h with | cons a r => cases r with | cons b r => cases r; exact ⟨_, _, rfl, a, b⟩

theorem len_sound {v : V} {x : Value} {n : Nat} {E : Value → Shared → Prop} (S : SR prog ω K c w σ s.heap) (hv : VR K w v x) (h : lenV σ v = some n) :
    wpAny (model prog ω) A (call (.builtin "len") [x]) (QV prog ω K c w s (.ok (.int n)) σ) E s := by
  cases hv with
  | none => cases h
  | bool => cases h
  | int => cases h
  | rng => cases h
  | exc => cases h
  | str y t k =>
    cases h
    refine PySem.P.len_str ?_ ⟨.ofT _ _, w, _, rfl, .refl _, S, ?_⟩
    · have := lim63 (sOk_iff.mp k).2; show ¬ ((y.cps.size : Int) ≥ 2 ^ 63); omega
    · exact .int _ _
  | tup e1 e2 e3 e4 e5 =>
    cases h
    refine len_tuple ⟨_, S.kg _ _ e1, e2, _, e3⟩ (by rw [← e4.sizeArr]; exact lim63 e5) ⟨.ofT _ _, w, _, rfl, .refl _, S, ?_⟩
    rw [e4.sizeArr]; exact .int _ _
  | lst e1 e2 e3 e4 e5 =>
    cases h
    refine call_len_list ⟨_, S.kg _ _ e1, e2, _, e3⟩ (by rw [← e4.sizeArr]; exact lim63 e5) ⟨.ofT _ _, w, _, rfl, .refl _, S, ?_⟩
    rw [e4.sizeArr]; exact .int _ _
  | @ref i p hp =>
    have hsys : (p.1 == sysModules) = false := by
      have := (S.out _ _ hp).2.2.2.1
      simpa using this
    obtain ⟨o, hg, h⟩ := Option.bind_eq_some_iff.mp (show (σ.get i).bind O.len = some n from h)
    have rr := S.at hp hg
    cases o with
    | list lk' vs =>
      cases h
      obtain ⟨_, xs, k, r1, r2, r3, _⟩ := rr
      refine call_len_list ⟨_, r1, rfl, _, rfl⟩ (by rw [← r2.sizeArr]; exact lim63 r3) ⟨.ofT _ _, w, _, rfl, .refl _, S, ?_⟩
      rw [r2.sizeArr]; exact .int _ _
    | di lk' es =>
      cases h
      obtain ⟨_, ob, kvs, r1, r2, r3, r4, _⟩ := rr
      refine call_len_dict hsys (Heap.dictOf_iff.mpr ⟨ob, r1, r2⟩) (by rw [← r3.length]; exact lim63 r4) ⟨.ofT _ _, w, _, rfl, .refl _, S, ?_⟩
      rw [r3.length]; exact .int _ _
    | ds lk' es =>
      cases h
      obtain ⟨_, ob, kvs, r1, r2, r3, _, r4, _⟩ := rr
      refine call_len_dict hsys (Heap.dictOf_iff.mpr ⟨ob, r1, r2⟩) (by rw [← r3.length]; exact lim63 r4) ⟨.ofT _ _, w, _, rfl, .refl _, S, ?_⟩
      rw [r3.length]; exact .int _ _
    | inst => cases h

theorem range_sound {args : List V} {xs : List Value} {r : Res V} {E : Value → Shared → Prop} (S : SR prog ω K c w σ s.heap) (hv : VRs K w args xs)
    (h : rangeV args σ = some (r, σ')) : wpAny (model prog ω) A (call (.type "range") xs []) (QV prog ω K c w s r σ') E s := by
  unfold rangeV at h
  split at h
  · obtain ⟨b, rfl, h⟩ := withInt_inv h
    obtain ⟨x, rfl, hx⟩ := hv.one
    obtain ⟨t, rfl⟩ := hx.intv
    cases h
    obtain ⟨w', hw, S', hv'⟩ := freeze_rng (a := 0) (b := _) (k := 1) (t := s.toks) (u := _) (v := s.toks + 1) S
    exact call_range_1 ⟨.of _ _ _, w', _, rfl, hw, S', hv'⟩
  · obtain ⟨a, rfl, h1⟩ := withInt_inv h
    obtain ⟨b, rfl, h2⟩ := withInt_inv h1
    obtain ⟨x, y, rfl, hx, hy⟩ := hv.two
    obtain ⟨t, rfl⟩ := hx.intv
    obtain ⟨u, rfl⟩ := hy.intv
    cases h2
    obtain ⟨w', hw, S', hv'⟩ := freeze_rng (a := _) (b := _) (k := 1) (t := _) (u := _) (v := s.toks) S
    exact call_range_2 ⟨.of _ _ _, w', _, rfl, hw, S', hv'⟩
  · obtain ⟨a, rfl, h1⟩ := withInt_inv h
    obtain ⟨b, rfl, h2⟩ := withInt_inv h1
    obtain ⟨d, rfl, h3⟩ := withInt_inv h2
    obtain ⟨hk, h4⟩ := if_inv h3
    cases h4
    cases hv with | cons hx hv =>
    obtain ⟨y, z, rfl, hy, hz⟩ := hv.two
    obtain ⟨t, rfl⟩ := hx.intv
    obtain ⟨u, rfl⟩ := hy.intv
    obtain ⟨v, rfl⟩ := hz.intv
    obtain ⟨w', hw, S', hv'⟩ := freeze_rng (a := _) (b := _) (k := _) (t := _) (u := _) (v := _) S
    exact call_range_3 (by omega) ⟨.of _ _ _, w', _, rfl, hw, S', hv'⟩ (.inl (PyProof.noPylong_small (by omega)))
  · cases h

theorem bfV_sound {f : Bf} {args : List V} {xs : List Value} {r : Res V} {E : Value → Shared → Prop} (B : Base K c mg mb) (S : SR prog ω K c w σ s.heap) (hA : AOK A n hd c envs) (hv : VRs K w args xs) (hlong : (hd && f.long) = false)
    (hns : ∀ mt, f ≠ .sorted mt) (h : bfV f args σ = some (r, σ')) : wpAny (model prog ω) A (call (bfVal f) xs []) (QV prog ω K c w s r σ') E s := by
  have hh : f.long = true → A.handled = none := fun e => hA.handled (by rw [e, Bool.and_true] at hlong; exact hlong)
  cases f with
  | sorted mt => exact absurd rfl (hns mt)
  | range => exact range_sound S hv h
  | len =>
    obtain ⟨v, rfl, h⟩ := arg1_inv h
    obtain ⟨x, rfl, hx⟩ := hv.one
    obtain ⟨m, hm, h⟩ := Option.map_eq_some_iff.mp h
    cases h
    exact len_sound S hx hm
  | min =>
    obtain ⟨a, b, rfl, h⟩ := arg2_inv h
    obtain ⟨x, y, rfl, hx, hy⟩ := hv.two
    obtain ⟨i, rfl, h1⟩ := withInt_inv h
    obtain ⟨j, rfl, h2⟩ := withInt_inv h1
    obtain ⟨t, rfl⟩ := hx.intv
    obtain ⟨u, rfl⟩ := hy.intv
    cases h2
    refine min_two_ints (hh rfl) fun h' tk k => ⟨.of _ _ _, w, _, rfl, .refl _, S.keeps k, ?_⟩
    split <;> exact .int _ _
  | max =>
    obtain ⟨a, b, rfl, h⟩ := arg2_inv h
    obtain ⟨x, y, rfl, hx, hy⟩ := hv.two
    obtain ⟨i, rfl, h1⟩ := withInt_inv h
    obtain ⟨j, rfl, h2⟩ := withInt_inv h1
    obtain ⟨t, rfl⟩ := hx.intv
    obtain ⟨u, rfl⟩ := hy.intv
    cases h2
    refine max_two_ints (hh rfl) fun h' tk k => ⟨.of _ _ _, w, _, rfl, .refl _, S.keeps k, ?_⟩
    split <;> exact .int _ _
  | abs =>
    obtain ⟨a, rfl, h⟩ := arg1_inv h
    obtain ⟨x, rfl, hx⟩ := hv.one
    obtain ⟨i, rfl, h⟩ := withInt_inv h
    obtain ⟨t, rfl⟩ := hx.intv
    cases h
    refine call_abs_int fun u tk => ⟨.ofT _ _, w, _, rfl, .refl _, S, ?_⟩
    have : (if i < 0 then -i else i) = (i.natAbs : Int) := by split <;> omega
    rw [this]; exact .int _ _
  | int => cases h
  | list => cases h
  | tuple => cases h
end
end Lw
set_option autoImplicit false
namespace Lw
open PySem PySem.W PySem.Calls PyProof.Rows

noncomputable def bmId : Bm → String
  | .append => "list.append" | .clear => "list.clear" | .pop => "dict.pop" | .get => "dict.get" | .startswith => "str.startswith" | .join => "str.join"

section
variable {prog : Program} {ω : World} {K : Frag} {mg mb : Str → Option Value} {P : Prog} {cl : Cl} {n : Nat} {cx : Cxt}
  {hd : Bool} {c : Cx} {w : Wd} {ρ : Rho} {σ σ' : St} {env : Env} {envs : List Env} {A : Around} {s : Shared} {M : Model}

set_option maxRecDepth 20000 in
theorem bm_get {m : Bm} {o : V} {x : Value} {pl : Sem Bool} {E : Value → Shared → Prop} {Q : Value × List Value → Shared → Prop} (S : SR prog ω K c w σ s.heap) (hv : VR K w o x) (hp : bmPre σ m o = true) (h : Q (.builtin (bmId m), [x]) s) :
    wpAny (model prog ω) A (getMethod x (Str.ofString (bmName m)) pl) Q E s := by
  have lists : ∀ i p, w.φ[i]? = some p → ∀ lk vs, σ.get i = some (.list lk vs) → s.TypeIs (.ref p.1) "list" ∧ ∃ o, s.heap.get? p.1 = some o ∧ o.dict = none := by
    intro i p hp lk vs hg
    obtain ⟨q, hq, rr⟩ := S.obj _ _ hg
    rw [hp] at hq; cases hq
    obtain ⟨_, xs, k, r1, _⟩ := rr
    exact ⟨⟨_, r1, rfl⟩, _, r1, rfl⟩
  have hlist : (m = .append ∨ m = .clear) → ∃ i p lk vs, x = .ref p.1 ∧ w.φ[i]? = some p ∧ σ.get i = some (.list lk vs) := by
    intro hm
    have hp' : isListV σ o = true := by
      rcases hm with rfl | rfl <;> exact hp
    unfold isListV at hp'
    cases hv with
    | @ref i p he =>
      dsimp only at hp'
      split at hp'
      · rename_i lk vs hg; exact ⟨i, p, lk, vs, rfl, he, hg⟩
      · cases hp'
    | _ => cases hp'
  have hstr : (m = .startswith ∨ m = .join) → ∃ y t, x = .str y t := by
    intro hm
    have hp' : isStrV o = true := by
      rcases hm with rfl | rfl <;> exact hp
    unfold isStrV at hp'
    cases hv <;> first | exact ⟨_, _, rfl⟩ | cases hp'
  cases m with
  | append =>
    obtain ⟨i, p, lk, vs, rfl, he, hg⟩ := hlist (.inl rfl)
    obtain ⟨t1, t2⟩ := lists i p he lk vs hg
    exact getMethod_builtin t1 PySem.F.plainAttrs_list PySem.F.slot_list_append PySem.F.type_list_append (fun a e => by cases e; exact t2) h
  | clear =>
    obtain ⟨i, p, lk, vs, rfl, he, hg⟩ := hlist (.inr rfl)
    obtain ⟨t1, t2⟩ := lists i p he lk vs hg
    exact getMethod_builtin t1 PySem.F.plainAttrs_list PySem.F.slot_list_clear PySem.F.type_list_clear (fun a e => by cases e; exact t2) h
  | pop => cases hp
  | get => cases hp
  | startswith =>
    obtain ⟨y, t, rfl⟩ := hstr (.inl rfl)
    unfold bmName bmId at *
    exact PySem.GM.startswith h
  | join =>
    obtain ⟨y, t, rfl⟩ := hstr (.inr rfl)
    unfold bmName bmId at *
    exact PySem.GM.join h

theorem ER.mapSt {κ : Type} [DecidableEq κ] {es : List (κ × V)} {kvs : List (κ × Value)} {v : V} {x : Value} (r : ER K w es kvs) (k : κ) (hv : VR K w v x) :
    (es.any fun kv => kv.1 = k) = (kvs.any fun kv => kv.1 = k) ∧ ER K w (es.map fun kv => if kv.1 = k then (kv.1, v) else kv) (kvs.map fun kv => if kv.1 = k then (kv.1, x) else kv) ∧ ER K w (es ++ [(k, v)]) (kvs ++ [(k, x)]) := by
  induction r with
  | nil => exact ⟨rfl, .nil, .cons hv .nil⟩
  | @cons k' v' x' es kvs hv' _ ih =>
    obtain ⟨a, b, d⟩ := ih
    refine ⟨by simp [a], ?_, .cons hv' d⟩
    by_cases h : k' = k
    · simp only [List.map_cons, h, if_true]; exact .cons hv b
    · simp only [List.map_cons, h, if_false]; exact .cons hv' b
theorem ER.st {κ : Type} [DecidableEq κ] {es : List (κ × V)} {kvs : List (κ × Value)} {v : V} {x : Value} (r : ER K w es kvs) (k : κ) (hv : VR K w v x) : ER K w (st es k v) (stored kvs k x) := by
  obtain ⟨a, b, d⟩ := r.mapSt k hv
  unfold Lw.st stored
  rw [a]
  split
  · exact b
  · exact d

theorem len_st {κ : Type} [DecidableEq κ] (es : List (κ × V)) (k : κ) (v : V) : (st es k v).length ≤ es.length + 1 := by unfold st; split <;> simp
theorem mem_st {κ : Type} [DecidableEq κ] {es : List (κ × V)} {k : κ} {v : V} {kv : κ × V} (h : kv ∈ st es k v) : kv.1 = k ∨ ∃ kv' ∈ es, kv'.1 = kv.1 := by
  unfold st at h
  split at h
  · obtain ⟨kv', hm, e⟩ := List.mem_map.mp h
    split at e
    · rename_i q; subst e; exact .inl q
    · subst e; exact .inr ⟨_, hm, rfl⟩
  · rcases List.mem_append.mp h with h | h
    · exact .inr ⟨_, h, rfl⟩
    · simp at h; exact .inl (by rw [h])

theorem strOk_join (sep : Str) (hs : PyData.strOk sep = true) : ∀ ss : List Str, (∀ x ∈ ss, PyData.strOk x = true) → PyData.strOk (Str.join sep ss) = true
  | [], _ => by simp [Str.join, PyData.strOk, Str.empty]
  | [x], h => h x (List.mem_cons_self ..)
  | x :: y :: r, h => by
    have ih := strOk_join sep hs (y :: r) fun z hz => h z (List.mem_cons_of_mem _ hz)
    show PyData.strOk (x ++ sep ++ Str.join sep (y :: r)) = true
    exact strOk_append (strOk_append (h x (List.mem_cons_self ..)) hs) ih

theorem asStrs_sound : ∀ {vs : List V} {xs : List Value} {ss : List Str}, VRs K w vs xs → asStrs vs = some ss → StrsAre xs ss ∧ (∀ y ∈ ss, sOk y = true) ∧ vs = ss.map .str
  | _, _, _, .nil, h => by simp [asStrs, mapO] at h; subst h; exact ⟨.nil, by simp, rfl⟩
  | _, _, ss, .cons a r, h => by
    unfold asStrs at h
    simp only [mapO] at h
    split at h
    · rename_i b bs h1 h2
      cases h
      obtain ⟨i1, i2, i3⟩ := asStrs_sound r (ss := bs) h2
      cases a <;> simp only [reduceCtorEq, Option.some.injEq] at h1
      subst h1
      rename_i t k
      refine ⟨.cons _ _ i1, ?_, ?_⟩
      · intro y hy
        rcases List.mem_cons.mp hy with rfl | hy
        · exact k
        · exact i2 y hy
      · rw [i3]; rfl
    · cases h

theorem starts_eq (x y : Str) : Txt.startswith x y = y.cps.toList.isPrefixOf x.cps.toList := by
  unfold Txt.startswith Builtin.Str.subAt
  simp only [Nat.zero_add]
  have hx : (x.cps.extract 0 y.length).toList = x.cps.toList.take y.cps.size := by
    rw [Array.toList_extract]; simp [List.extract, Str.length]
  have hl : y.length = y.cps.toList.length := by simp [Str.length]
  have hl2 : x.length = x.cps.toList.length := by simp [Str.length]
  by_cases h : y.cps.toList <+: x.cps.toList
  · have h1 : y.cps.toList.isPrefixOf x.cps.toList = true := List.isPrefixOf_iff_prefix.mpr h
    rw [h1]
    have h2 := h.length_le
    have h3 : x.cps.toList.take y.cps.toList.length = y.cps.toList := (List.prefix_iff_eq_take.mp h).symm
    have h4 : (x.cps.extract 0 y.length) = y.cps := by
      apply Array.toList_inj.mp
      rw [hx]; simpa using h3
    rw [h4, hl, hl2]
    simpa using h2
  · have h1 : y.cps.toList.isPrefixOf x.cps.toList = false := by
      cases q : y.cps.toList.isPrefixOf x.cps.toList with
      | false => rfl
      | true => exact absurd (List.isPrefixOf_iff_prefix.mp q) h
    rw [h1]
    rw [Bool.and_eq_false_iff]
    refine .inr ?_
    cases q : (x.cps.extract 0 y.length == y.cps) with
    | false => rfl
    | true =>
      exfalso
      apply h
      have := congrArg Array.toList (beq_iff_eq.mp q)
      rw [hx] at this
      rw [← this]
      exact List.take_prefix _ _

theorem VRs.push {vs : List V} {xs : Array Value} {v : V} {x : Value} (r : VRs K w vs xs.toList) (h : VR K w v x) : VRs K w (vs ++ [v]) (xs.push x).toList := by
  rw [Array.toList_push]; exact r.append (.cons h .nil)

theorem free_inv {o : O} {vs : List V} (h : o.free = some vs) : o = .list false vs := by
  cases o with
  | list lk us => cases lk with
    | false => cases h; rfl
    | true => cases h
  | di => cases h
  | ds => cases h
  | inst => cases h
theorem arg0_inv {α : Type} {args : List V} {k : Option α} {z : α} (h : arg0 args k = some z) : args = [] ∧ k = some z := by
  unfold arg0 at h
  split at h
  · exact ⟨rfl, h⟩
  · cases h
theorem bmV_sound {m : Bm} {o : V} {x : Value} {args : List V} {xs : List Value} {r : Res V} {E : Value → Shared → Prop} (S : SR prog ω K c w σ s.heap) (ho : VR K w o x) (hv : VRs K w args xs)
    (h : bmV m o args σ = some (r, σ')) : wpAny (model prog ω) A (call (.builtin (bmId m)) (x :: xs) []) (QV prog ω K c w s r σ') E s := by
  cases m with
  | append =>
    obtain ⟨i, rfl, h1⟩ := withRef_inv h
    obtain ⟨v, rfl, h2⟩ := arg1_inv h1
    obtain ⟨vs, h3, h4⟩ := Option.bind_eq_some_iff.mp h2
    obtain ⟨ob, hg, h5⟩ := Option.bind_eq_some_iff.mp h3
    obtain ⟨hl, h6⟩ := if_inv h4
    cases h6
    cases free_inv h5
    obtain ⟨p, hp, rfl⟩ := ho.refv
    obtain ⟨y, rfl, a⟩ := hv.one
    obtain ⟨ep, ys, k, r1, r2, r3, r4⟩ := S.at hp hg
    refine wpAny_list_append_plain (l := p.1) ⟨k, r1⟩ (fun h' hl' hS => ?_) (by rw [← r2.sizeArr]; exact lim_size r3)
    obtain ⟨k', hk'⟩ := hl'
    refine ⟨.ofH _ _, w, _, rfl, .refl _, S.upd hp hg (.inl rfl) r4 hS ⟨_, hk'⟩ ⟨ep, _, k', hk', r2.push a, ?_, r4⟩, .none⟩
    simp only [List.length_append, List.length_cons, List.length_nil]; omega
  | clear =>
    obtain ⟨i, rfl, h1⟩ := withRef_inv h
    obtain ⟨rfl, h2⟩ := arg0_inv h1
    obtain ⟨vs, h3, h4⟩ := Option.map_eq_some_iff.mp h2
    obtain ⟨ob, hg, h5⟩ := Option.bind_eq_some_iff.mp h3
    cases h4
    cases free_inv h5
    obtain ⟨p, hp, rfl⟩ := ho.refv
    cases hv
    obtain ⟨ep, ys, k, r1, r2, r3, r4⟩ := S.at hp hg
    have hnew : ∃ k', (s.heap.update p.1 (Obj.mapSeq fun _ => #[])).get? p.1 = some ⟨.type "list", none, .seq #[] k', #[]⟩ := by
      rw [Heap.get?_update_self _ r1 rfl]; exact ⟨_, rfl⟩
    obtain ⟨k', hnew⟩ := hnew
    refine call_meets PySem.F.slot_list_clear ⟨_, r1, rfl⟩ PySem.F.entry_list_clear (PySem.F.args_list_clear_1 _) (PySem.AutoSeq1.list_clear_list_0 p.1 ys k (by rw [← r2.sizeArr]; exact lim_size r3)) ⟨r1, ?_⟩
    exact ⟨.of _ _ _, w, _, rfl, .refl _, S.upd hp hg (.inl rfl) r4 (Heap.SameBut.update ..) ⟨_, hnew⟩ ⟨ep, _, _, hnew, .nil, by simp, r4⟩, .none⟩
  | pop => cases h
  | get => cases h
  | startswith =>
    obtain ⟨s1, rfl, h1⟩ := withStr_inv h
    obtain ⟨v, rfl, h2⟩ := arg1_inv h1
    obtain ⟨s2, rfl, h3⟩ := withStr_inv h2
    cases h3
    obtain ⟨t, rfl, _⟩ := ho.strv
    obtain ⟨y, rfl, a⟩ := hv.one
    obtain ⟨u, rfl, _⟩ := a.strv
    refine PySem.SC.startswith ⟨.refl _, w, _, rfl, .refl _, S, ?_⟩
    rw [starts_eq]; exact .bool _
  | join =>
    obtain ⟨sep, rfl, h1⟩ := withStr_inv h
    obtain ⟨v, rfl, h2⟩ := arg1_inv h1
    obtain ⟨vs, hq, h3⟩ := Option.bind_eq_some_iff.mp h2
    obtain ⟨ss, hss, h4⟩ := Option.bind_eq_some_iff.mp h3
    obtain ⟨hl, h5⟩ := if_inv h4
    cases h5
    obtain ⟨t, rfl, hsep⟩ := ho.strv
    obtain ⟨y, rfl, a⟩ := hv.one
    obtain ⟨l, ys, rfl, hL, hys, hlim⟩ := seqOf_sound S a hq
    obtain ⟨j1, j2, j3⟩ := asStrs_sound hys hss
    refine join_listW hL j1 (by show sep.cps.size ≤ 16; omega) (by unfold lim at hl; omega) fun t' k => ⟨.ofT _ _, w, _, rfl, .refl _, S, ?_⟩
    have e : Txt.join sep ss = Str.join sep ss := PySem.StrLaws.glued_eq_join sep ss
    rw [e]
    refine .str _ _ (sOk_iff.mpr ⟨strOk_join sep (sOk_iff.mp hsep).1 ss fun y hy => (sOk_iff.mp (j2 y hy)).1, ?_⟩)
    have := PySem.StrLaws.join_length_le sep ss
    have h0 : sep.length = 0 := hl.1
    rw [h0] at this
    show (Str.join sep ss).length ≤ lim
    omega
end
end Lw
set_option autoImplicit false
namespace Lw
open PySem PySem.W PySem.Calls PyProof.Rows

section
variable {prog : Program} {ω : World} {K : Frag} {mg mb : Str → Option Value} {P : Prog} {cl : Cl} {n : Nat} {cx : Cxt}
  {hd : Bool} {c : Cx} {w : Wd} {ρ : Rho} {σ σ' : St} {env : Env} {envs : List Env} {A : Around} {s : Shared} {E : Value → Shared → Prop}

theorem fresh_sys {h : Heap} {D : Addr} (B : Base K c mg mb) (S : SR prog ω K c w σ h) (hD : ∀ b o, h.get? b = some o → b < D) : D ≠ sysModules := by
  obtain ⟨o, e, _⟩ := B.g
  have h2 := hD _ _ (S.kp _ _ e)
  intro q; subst q
  revert h2; decide

end
end Lw
set_option autoImplicit false
namespace Lw
open PySem PySem.W PySem.Calls PyProof.Rows

noncomputable def tyVal (K : Frag) : Ty → Option Value
  | .int => some (.type "int") | .bool => some (.type "bool") | .str => some (.type "str") | .tuple => some (.type "tuple") | .list => some (.type "list") | .valueError => some (.type "ValueError")
  | .own c => (clsAt K c).map .ref

section
variable {prog : Program} {ω : World} {K : Frag} {mg mb : Str → Option Value} {P : Prog} {cl : Cl} {n : Nat} {cx : Cxt}
  {hd : Bool} {c : Cx} {w : Wd} {ρ : Rho} {σ σ' : St} {env : Env} {envs : List Env} {A : Around} {s : Shared} {Ex : Value → Shared → Prop}

theorem looks_cls {M : Model} {h : Heap} {a : Addr} {o : Obj} (e : h.get? a = some o) : Looks M h (typeOf (.ref a)) o.cls := by
  exact (Looks.ld e).andThen .now

theorem isinstV_sound {v : V} {x tv : Value} {t : Ty} {b : Bool} {Q : Value → Shared → Prop} (S : SR prog ω K c w σ s.heap) (B : Base K c mg mb) (hv : VR K w v x) (ht : tyVal K t = some tv) (hb : isinstV P σ v t = some b)
    (h : ∀ tk, Q (.bool b) { s with toks := tk }) : wpAny (model prog ω) A (call (.builtin "isinstance") [x, tv]) Q Ex s := by
  cases t <;> simp only [tyVal, Option.some.injEq, Option.map_eq_some_iff] at ht
  case int =>
    subst ht
    cases hv with
    | none =>
      obtain rfl : false = b := Option.some.inj hb
      exact IsiPair.NoneType_int (h _)
    | bool =>
      obtain rfl : true = b := Option.some.inj hb
      exact IsiPair.bool_int (h s.toks)
    | int =>
      obtain rfl : true = b := Option.some.inj hb
      exact IsiPair.int_int (h s.toks)
    | str =>
      obtain rfl : false = b := Option.some.inj hb
      exact IsiPair.str_int (h _)
    | tup =>
      obtain rfl : false = b := Option.some.inj hb
      exact IsiPair.tuple_int (S.kg _ _ ‹_›) ‹_› (h _)
    | lst =>
      obtain rfl : false = b := Option.some.inj hb
      exact IsiPair.list_int (S.kg _ _ ‹_›) ‹_› (h _)
    | rng => cases (show (none : Option Bool) = some b from hb)
    | exc => cases (show (none : Option Bool) = some b from hb)
    | ref => cases (show (none : Option Bool) = some b from hb)
  case bool =>
    subst ht
    cases hv with
    | none =>
      obtain rfl : false = b := Option.some.inj hb
      exact IsiPair.NoneType_bool (h _)
    | bool =>
      obtain rfl : true = b := Option.some.inj hb
      exact IsiPair.bool_bool (h s.toks)
    | int =>
      obtain rfl : false = b := Option.some.inj hb
      exact IsiPair.int_bool (h _)
    | str =>
      obtain rfl : false = b := Option.some.inj hb
      exact IsiPair.str_bool (h _)
    | tup =>
      obtain rfl : false = b := Option.some.inj hb
      exact IsiPair.tuple_bool (S.kg _ _ ‹_›) ‹_› (h _)
    | lst =>
      obtain rfl : false = b := Option.some.inj hb
      exact IsiPair.list_bool (S.kg _ _ ‹_›) ‹_› (h _)
    | rng => cases (show (none : Option Bool) = some b from hb)
    | exc => cases (show (none : Option Bool) = some b from hb)
    | ref => cases (show (none : Option Bool) = some b from hb)
  case str =>
    subst ht
    cases hv with
    | none =>
      obtain rfl : false = b := Option.some.inj hb
      exact IsiPair.NoneType_str (h _)
    | bool =>
      obtain rfl : false = b := Option.some.inj hb
      exact IsiPair.bool_str (h _)
    | int =>
      obtain rfl : false = b := Option.some.inj hb
      exact IsiPair.int_str (h _)
    | str =>
      obtain rfl : true = b := Option.some.inj hb
      exact IsiPair.str_str (h s.toks)
    | tup =>
      obtain rfl : false = b := Option.some.inj hb
      exact IsiPair.tuple_str (S.kg _ _ ‹_›) ‹_› (h _)
    | lst =>
      obtain rfl : false = b := Option.some.inj hb
      exact IsiPair.list_str (S.kg _ _ ‹_›) ‹_› (h _)
    | rng => cases (show (none : Option Bool) = some b from hb)
    | exc => cases (show (none : Option Bool) = some b from hb)
    | ref => cases (show (none : Option Bool) = some b from hb)
  case tuple =>
    subst ht
    cases hv with
    | none =>
      obtain rfl : false = b := Option.some.inj hb
      exact IsiPair.NoneType_tuple (h _)
    | bool =>
      obtain rfl : false = b := Option.some.inj hb
      exact IsiPair.bool_tuple (h _)
    | int =>
      obtain rfl : false = b := Option.some.inj hb
      exact IsiPair.int_tuple (h _)
    | str =>
      obtain rfl : false = b := Option.some.inj hb
      exact IsiPair.str_tuple (h _)
    | tup =>
      obtain rfl : true = b := Option.some.inj hb
      exact IsiPair.tuple_tuple (S.kg _ _ ‹_›) ‹_› (h s.toks)
    | lst =>
      obtain rfl : false = b := Option.some.inj hb
      exact IsiPair.list_tuple (S.kg _ _ ‹_›) ‹_› (h _)
    | rng => cases (show (none : Option Bool) = some b from hb)
    | exc => cases (show (none : Option Bool) = some b from hb)
    | ref => cases (show (none : Option Bool) = some b from hb)
  case list =>
    subst ht
    cases hv with
    | none =>
      obtain rfl : false = b := Option.some.inj hb
      exact IsiPair.NoneType_list (h _)
    | bool =>
      obtain rfl : false = b := Option.some.inj hb
      exact IsiPair.bool_list (h _)
    | int =>
      obtain rfl : false = b := Option.some.inj hb
      exact IsiPair.int_list (h _)
    | str =>
      obtain rfl : false = b := Option.some.inj hb
      exact IsiPair.str_list (h _)
    | tup =>
      obtain rfl : false = b := Option.some.inj hb
      exact IsiPair.tuple_list (S.kg _ _ ‹_›) ‹_› (h _)
    | lst =>
      obtain rfl : true = b := Option.some.inj hb
      exact IsiPair.list_list (S.kg _ _ ‹_›) ‹_› (h s.toks)
    | rng => cases (show (none : Option Bool) = some b from hb)
    | exc => cases (show (none : Option Bool) = some b from hb)
    | @ref i p hp =>
      have hb : (match σ.get i with | some (.list _ _) => some true | _ => none) = some b := hb
      split at hb
      · rename_i lk' vs hg
        cases hb
        obtain ⟨_, xs, k, r1, _⟩ := S.at hp hg
        exact IsiPair.list_list r1 rfl (h s.toks)
      · cases hb
  case valueError => cases hv <;> cases (show (none : Option Bool) = some b from hb)
  case own d =>
    obtain ⟨C, hC, rfl⟩ := ht
    cases hv with
    | none => cases (show (none : Option Bool) = some b from hb)
    | bool => cases (show (none : Option Bool) = some b from hb)
    | int => cases (show (none : Option Bool) = some b from hb)
    | str => cases (show (none : Option Bool) = some b from hb)
    | tup => cases (show (none : Option Bool) = some b from hb)
    | lst => cases (show (none : Option Bool) = some b from hb)
    | rng => cases (show (none : Option Bool) = some b from hb)
    | exc => cases (show (none : Option Bool) = some b from hb)
    | @ref i p hp =>
      have hb : (match σ.get i with | some (.inst c _) => if c = d then some true else none | _ => none) = some b := hb
      split at hb
      · rename_i c' fs hg
        obtain ⟨e, hb'⟩ := if_inv hb
        subst e
        obtain rfl : true = b := Option.some.inj hb'
        obtain ⟨_, _, C', es, k, hC', h1, _⟩ := S.at hp hg
        rw [hC] at hC'; cases hC'
        exact isi_call (B.kin S) (t := .ref C) (fun M => looks_cls h1) (by unfold isIn; simp) (by intro e; cases e) (h s.toks)
      · cases hb

theorem SimKs.none : SimKs prog ω K mg mb P cl n cx [] [] [] := .nil

theorem boot_bf (f : Bf) : bootBuiltins (Str.ofString (bfName f)) = some (bfVal f) ∧ Str.ofString (bfName f) ≠ "__name__" := by
  cases f <;> exact ⟨by kernel_rfl, by first | decide | (show Str.ofString "sorted" ≠ _; decide)⟩

theorem bindM_evs_nil {α : Type} {k : List V → St → Option (Res α × St)} : bindM (evs P cl hd [] ρ σ) k = k [] σ := by simp [evs, bindM]

theorem sim_bcall {f : Bf} {es : List E} {xs : List Expr} {p pos : Pos} (hg : cx.isGlob (Str.ofString (bfName f)) = true) (hk : nsIn K mainGlobals (Str.ofString (bfName f)) = some none) (ha : Sims prog ω K mg mb P cl n cx es xs) :
    Sim prog ω K mg mb P cl n cx (.bcall f es) (.Call (.Name (Str.ofString (bfName f)) p) xs [] pos) := by
  have h : SimE prog ω K mg mb P cl n cx (.bcall f es) (.Call (.Name (Str.ofString (bfName f)) p) xs [] pos) := by
    intro hd c w ρ σ env envs A s r' σ' hev B S F hn hA
    rw [e_bcall] at hev
    refine callName_sound (kn := []) (kes := []) (ks := []) (k := fun vs _ σ => if hd && f.long then none else bfV f vs σ) (fun hQ => glob_bi B S F hn hg hk (boot_bf f).1 (boot_bf f).2 hQ) ?_ ha .nil (by simpa only [bindM_evs_nil] using hev) B S F hn hA ?_
    · cases f <;> first | exact keeps_builtin | exact keeps_type
    · intro vs us xv yv σ₁ w₁ s₁ hk hs hw S₁ hv hu
      split at hk
      · cases hk
      · rename_i hl
        have hl : (hd && f.long) = false := by simpa using hl
        have key : ∀ {Ex : Value → Shared → Prop}, wpAny (model prog ω) A (call (bfVal f) xv []) (QV prog ω K c w₁ s₁ r' σ') Ex s₁ := by
          intro Ex
          cases f with
          | sorted mt => cases hk
          | _ => exact bfV_sound B S₁ hA hv hl (by intro mt q; cases q) hk
        refine wpAny_mono key (fun v s₂ q => ?_) fun _ _ q => q
        obtain ⟨q1, w₂, a, q2, q3, q4, q5⟩ := q
        exact ⟨hs.trans q1, w₂, a, q2, hw.trans q3, q4, q5⟩
  exact ⟨h, h.simT fun _ _ => rfl⟩

theorem sim_bmeth {m : Bm} {o : E} {es : List E} {oe : Expr} {xs : List Expr} {ap pos : Pos} (hsup : notSuper oe = true) (hpos : (ap.endLine == pos.line) = true) (hl : xs.length < 10) (ho : Sim prog ω K mg mb P cl n cx o oe) (ha : Sims prog ω K mg mb P cl n cx es xs) :
    Sim prog ω K mg mb P cl n cx (.bmeth m o es) (.Call (.Attribute oe (Str.ofString (bmName m)) ap) xs [] pos) := by
  have h : SimE prog ω K mg mb P cl n cx (.bmeth m o es) (.Call (.Attribute oe (Str.ofString (bmName m)) ap) xs [] pos) := by
    intro hd c w ρ σ env envs A s r' σ' hev B S F hn hA
    rw [e_bmeth] at hev
    refine wpAny_Call_Attr hsup hpos ha .nil hl (by decide) (ho.v.bind hev B S F hn hA fun x xv σ₁ w₁ s₁ hk hs hw S₁ hx pl => ?_)
    split at hk
    · rename_i hpre
      refine bm_get S₁ hx hpre ?_
      refine callWith_sound (kn := []) (kes := []) (ks := []) (k := fun vs _ σ => if hd && m.long then none else bmV m x vs σ) keeps_builtin ha .nil (by simpa only [bindM_evs_nil] using hk) B S₁ (F.mono hw) hn hA hs hw ?_
      intro vs us yv zv σ₂ w₂ s₂ hk hs₂ hw₂ hw12 S₂ hv hu
      split at hk
      · cases hk
      · refine wpAny_mono (bmV_sound (m := m) S₂ (hx.mono hw12) hv hk) (fun v s₃ q => ?_) fun _ _ q => q
        obtain ⟨q1, w₃, a, q2, q3, q4, q5⟩ := q
        exact ⟨hs₂.trans q1, w₃, a, q2, hw₂.trans q3, q4, q5⟩
    · cases hk
  exact ⟨h, h.simT fun _ _ => rfl⟩

theorem sim_isinst {a : E} {t : Ty} {x : Expr} {tv : Value} {p p2 pos : Pos} (hg : cx.isGlob ("isinstance" : Str) = true) (hk : nsIn K mainGlobals ("isinstance" : Str) = some none) (hst : notStar x = true)
    (ht : tyVal K t = some tv)
    (hname : ∀ (c : Cx) (w : Wd) (ρ : Rho) (σ : St) (env : Env) (A : Around) (s : Shared) (Ex Q : Value → Shared → Prop), Base K c mg mb → SR prog ω K c w σ s.heap → FR K c w env cx.vis ρ → Fits cx c env → Q tv s → wpAny (model prog ω) A (eval (.Name (Str.ofString (tyName t)) p2) env) Q Ex s)
    (ha : Sim prog ω K mg mb P cl n cx a x) :
    Sim prog ω K mg mb P cl n cx (.isinst a t) (.Call (.Name ("isinstance" : Str) p) [x, .Name (Str.ofString (tyName t)) p2] [] pos) := by
  have h : SimE prog ω K mg mb P cl n cx (.isinst a t) (.Call (.Name ("isinstance" : Str) p) [x, .Name (Str.ofString (tyName t)) p2] [] pos) := by
    intro hd c w ρ σ env envs A s r' σ' hev B S F hn hA
    rw [e_isinst] at hev
    refine wpAny_Call_Name_kw (glob_bi (v := .builtin "isinstance") B S F hn hg hk (by kernel_rfl) (by decide) ?_)
    have e1 : backTo pos (starEach [x, .Name (Str.ofString (tyName t)) p2] env) = [(false, eval x env), (false, eval (.Name (Str.ofString (tyName t)) p2) env)] := by
      rw [star_plain hst, star_plain rfl]; rfl
    rw [e1]
    refine callWith_of (P := K.In) rfl keeps_builtin (evalArgs_kw rfl ?_)
    refine spliced_cons (ha.v.bind hev B S F hn hA fun y yv σ₁ w₁ s₁ hk1 hs hw S₁ hy => ?_)
    refine spliced_cons (hname c w₁ ρ σ₁ env A s₁ _ _ B S₁ (F.mono hw) hn ?_)
    refine spliced_nil (wpAny_evalAll_nil ⟨B.kin S₁, ?_⟩)
    split at hk1
    · rename_i b hb
      simp only [Option.some.injEq, Prod.mk.injEq] at hk1
      obtain ⟨rfl, rfl⟩ := hk1
      exact isinstV_sound S₁ B hy ht hb fun tk => ⟨hs.trans (.ofT _ _), w₁, _, rfl, hw, S₁, .bool _⟩
    · cases hk1
  exact ⟨h, h.simT fun _ _ => rfl⟩
end
end Lw
set_option autoImplicit false
namespace Lw
open PySem PySem.W PySem.Calls PyProof.Rows

noncomputable def Cx.frame (c : Cx) (L : Addr) (o : Obj) (cs : List (Addr × Obj)) : Cx :=
  { c with fr := (L, o) :: c.fr, px := fun x => match cs.lookup x with | some ob => some ob | none => c.px x }

structure Frm (c : Cx) (w : Wd) (env : Env) (L : Addr) (o : Obj) (cs : List (Addr × Obj)) : Prop where
  loc : env.locals = L
  frm : env.frame = some L
  cells : ∀ x a, env.cells.lookup x = some a → ∃ ob v, cs.lookup a = some ob ∧ ob.data = .cell v
  inj : ∀ x y a, env.cells.lookup x = some a → env.cells.lookup y = some a → x = y
  ns : ∃ m, ObjNs o m
  na : w.na L
  g : w.g L = none
  cna : ∀ a ob, cs.lookup a = some ob → w.na a ∧ w.g a = none ∧ a ≠ L ∧ c.px a = none ∧ c.lk a = none ∧ ∀ q ∈ c.fr, q.1 ≠ a
  px : c.px L = none
  lk : c.lk L = none
  fr : ∀ q ∈ c.fr, q.1 ≠ L

structure InF (prog : Program) (ω : World) (K : Frag) (c : Cx) (w : Wd) (σ : St) (ρ : Rho) (env : Env) (vis : List (Str × Nat)) (L : Addr) (o : Obj) (cs : List (Addr × Obj)) (h : Heap) : Prop where
  S : SR prog ω K (c.frame L o cs) w σ h
  F : FR K (c.frame L o cs) w env vis ρ
  M : Frm c w env L o cs

section
variable {prog : Program} {ω : World} {K : Frag} {mg mb : Str → Option Value} {P : Prog} {cl : Cl} {n : Nat} {cx : Cxt}
  {hd : Bool} {c : Cx} {w w' : Wd} {ρ : Rho} {σ σ' : St} {env : Env} {envs : List Env} {A : Around} {s : Shared} {L : Addr} {o o' : Obj} {cs cs' : List (Addr × Obj)} {h h' : Heap} {vis : List (Str × Nat)}

theorem Frm.mono (M : Frm c w env L o cs) (hw : w.Le w') : Frm c w' env L o cs where
  loc := M.loc
  frm := M.frm
  cells := M.cells
  inj := M.inj
  ns := M.ns
  na := by rw [hw.na]; exact M.na
  g := by
    cases q : w'.g L with
    | none => rfl
    | some x => have := hw.old L x M.na q; rw [M.g] at this; cases this
  cna a ob e := by
    obtain ⟨h1, h2, h3⟩ := M.cna a ob e
    refine ⟨by rw [hw.na]; exact h1, ?_, h3⟩
    cases q : w'.g a with
    | none => rfl
    | some x => have := hw.old a x h1 q; rw [h2] at this; cases this
  px := M.px
  lk := M.lk
  fr := M.fr

theorem Frm.pxL (M : Frm c w env L o cs) : (c.frame L o cs).px L = none := by
  show (match cs.lookup L with | some ob => some ob | none => c.px L) = none
  cases q : cs.lookup L with
  | none => exact M.px
  | some ob => exact absurd rfl (M.cna L ob q).2.2.1

theorem InF.mono (I : InF prog ω K c w σ ρ env vis L o cs h) (S' : SR prog ω K (c.frame L o cs) w' σ' h') (hw : w.Le w') : InF prog ω K c w' σ' ρ env vis L o cs h' := ⟨S', I.F.mono hw, I.M.mono hw⟩

theorem SR.setFrame (S : SR prog ω K (c.frame L o cs) w σ h) (M : Frm c w env L o cs) (hb : Heap.SameBut L h h') (ho : h'.get? L = some o') : SR prog ω K (c.frame L o' cs) w σ h' where
  kg x ob e := (hb.2 x (fun q => by rw [q, M.g] at e; cases e)).trans (S.kg x ob e)
  kp x ob e := by
    have e' : (c.frame L o cs).px x = some ob := e
    exact (hb.2 x (fun q => by rw [q, M.pxL] at e'; cases e')).trans (S.kp x ob e')
  kl x ob e := (hb.2 x (fun q => by rw [q] at e; have e' : c.lk L = some ob := e; rw [M.lk] at e'; cases e')).trans (S.kl x ob e)
  kf q hq := by
    rcases List.mem_cons.mp hq with rfl | hq
    · exact ⟨o'.slots, ho⟩
    · obtain ⟨sl, e⟩ := S.kf q (List.mem_cons_of_mem _ hq)
      exact ⟨sl, (hb.2 q.1 (M.fr q hq)).trans e⟩
  len := S.len
  used x q := by
    rcases S.used x q with e | ⟨p, hp, e⟩
    · exact .inl e
    · rcases List.mem_cons.mp hp with rfl | hp
      · exact .inr ⟨(L, o'), List.mem_cons_self .., e⟩
      · exact .inr ⟨p, List.mem_cons_of_mem _ hp, e⟩
  obj i ob e := by
    obtain ⟨p, x, r⟩ := S.obj i ob e
    have out := S.out i p x
    have n1 := (out.2.2.1 (L, o) (List.mem_cons_self ..)).1
    have n2 := (out.2.2.1 (L, o) (List.mem_cons_self ..)).2
    exact ⟨p, x, (r.cx rfl rfl).mono0 ⟨fun _ _ q => q, List.prefix_refl _⟩ fun b y hb' e => (hb.2 b (fun q => by rcases hb' with z | z; exact n1 (q.symm.trans z); exact n2 (q.symm.trans z))).trans e⟩
  out i p e := by
    obtain ⟨x, b, d, f, ⟨o1, e1⟩, ⟨o2, e2⟩, y⟩ := S.out i p e
    have n1 := (d (L, o) (List.mem_cons_self ..)).1
    have n2 := (d (L, o) (List.mem_cons_self ..)).2
    refine ⟨x, b, fun q hq => ?_, f, ⟨o1, (hb.2 _ (Ne.symm n1)).trans e1⟩, ⟨o2, (hb.2 _ (Ne.symm n2)).trans e2⟩, y⟩
    rcases List.mem_cons.mp hq with rfl | hq
    · exact ⟨n1, n2⟩
    · exact d q (List.mem_cons_of_mem _ hq)
  apart := S.apart

noncomputable def setCs (cs : List (Addr × Obj)) (a : Addr) (ob : Obj) : List (Addr × Obj) := cs.map fun p => if p.1 = a then (a, ob) else p
theorem setCs_lookup {cs : List (Addr × Obj)} {a b : Addr} {ob : Obj} : (setCs cs a ob).lookup b = if b = a then (cs.lookup a).map (fun _ => ob) else cs.lookup b := by
  induction cs with
  | nil => unfold setCs; simp
  | cons p r ih =>
    obtain ⟨x, y⟩ := p
    unfold setCs at *
    simp only [List.map_cons]
    by_cases h : x = a
    · subst h
      by_cases hb : b = x
      · subst hb; simp [List.lookup_cons]
      · have hbx : (b == x) = false := by simpa using hb
        simp only [if_true, List.lookup_cons, hbx, if_neg hb] at ih ⊢
        exact ih
    · simp only [h, if_false]
      by_cases hb : b = x
      · subst hb
        simp [List.lookup_cons, h]
      · have hbx : (b == x) = false := by simpa using hb
        have hax : (a == x) = false := by simpa using Ne.symm h
        simp only [List.lookup_cons, hbx, hax]
        exact ih

theorem SR.setCell {a : Addr} {ob ob' : Obj} (S : SR prog ω K (c.frame L o cs) w σ h) (M : Frm c w env L o cs) (ha : cs.lookup a = some ob) (hb : Heap.SameBut a h h') (ho : h'.get? a = some ob') : SR prog ω K (c.frame L o (setCs cs a ob')) w σ h' where
  kg x y e := (hb.2 x (fun q => by rw [q, (M.cna a ob ha).2.1] at e; cases e)).trans (S.kg x y e)
  kp x y e := by
    change (match (setCs cs a ob').lookup x with | some z => some z | none => c.px x) = some y at e
    rw [setCs_lookup] at e
    by_cases q : x = a
    · subst q
      rw [if_pos rfl, ha] at e
      simp at e; rw [← e]; exact ho
    · rw [if_neg q] at e
      exact (hb.2 x q).trans (S.kp x y e)
  kl x y e := (hb.2 x (fun q => by rw [q] at e; have e' : c.lk a = some y := e; rw [(M.cna a ob ha).2.2.2.2.1] at e'; cases e')).trans (S.kl x y e)
  kf q hq := by
    rcases List.mem_cons.mp hq with rfl | hq
    · obtain ⟨sl, e⟩ := S.kf (L, o) (List.mem_cons_self ..)
      exact ⟨sl, (hb.2 L (Ne.symm (M.cna a ob ha).2.2.1)).trans e⟩
    · obtain ⟨sl, e⟩ := S.kf q (List.mem_cons_of_mem _ hq)
      exact ⟨sl, (hb.2 q.1 ((M.cna a ob ha).2.2.2.2.2 q hq)).trans e⟩
  len := S.len
  used x q := by
    rcases S.used x q with ⟨y, e⟩ | e
    · refine .inl ?_
      change ∃ z, (match (setCs cs a ob').lookup x with | some z => some z | none => c.px x) = some z
      rw [setCs_lookup]
      by_cases q : x = a
      · rw [if_pos q, ha]; exact ⟨ob', rfl⟩
      · rw [if_neg q]; exact ⟨y, e⟩
    · exact .inr e
  obj i z e := by
    obtain ⟨p, x, r⟩ := S.obj i z e
    have out := S.out i p x
    have hpa : (c.frame L o cs).px a = some ob := by show (match cs.lookup a with | some z => some z | none => c.px a) = _; rw [ha]
    have n1 : p.1 ≠ a := fun q => by have := out.2.2.2.2.2.2.1; rw [q, hpa] at this; cases this
    have n2 : p.2 ≠ a := fun q => by have := out.2.2.2.2.2.2.2; rw [q, hpa] at this; cases this
    exact ⟨p, x, (r.cx rfl rfl).mono0 ⟨fun _ _ q => q, List.prefix_refl _⟩ fun b y hb' e => (hb.2 b (fun q => by rcases hb' with z | z; exact n1 (z.symm.trans q); exact n2 (z.symm.trans q))).trans e⟩
  out i p e := by
    obtain ⟨x, b, d, f, ⟨o1, e1⟩, ⟨o2, e2⟩, y, z⟩ := S.out i p e
    have hpa : (c.frame L o cs).px a = some ob := by show (match cs.lookup a with | some z => some z | none => c.px a) = _; rw [ha]
    have n1 : p.1 ≠ a := fun q => by rw [q, hpa] at y; cases y
    have n2 : p.2 ≠ a := fun q => by rw [q, hpa] at z; cases z
    refine ⟨x, b, d, f, ⟨o1, (hb.2 _ n1).trans e1⟩, ⟨o2, (hb.2 _ n2).trans e2⟩, ?_, ?_⟩
    · show (match (setCs cs a ob').lookup p.1 with | some z => some z | none => c.px p.1) = none
      rw [setCs_lookup, if_neg n1]; exact y
    · show (match (setCs cs a ob').lookup p.2 with | some z => some z | none => c.px p.2) = none
      rw [setCs_lookup, if_neg n2]; exact z
  apart := S.apart

noncomputable def keysOfC (cs : List (Addr × Obj)) : List Addr := cs.map (·.1)
theorem setCs_keys (cs : List (Addr × Obj)) (a : Addr) (ob : Obj) : keysOfC (setCs cs a ob) = keysOfC cs := by
  unfold keysOfC setCs
  rw [List.map_map]
  refine List.map_congr_left fun p _ => ?_
  by_cases h : p.1 = a <;> simp [h]

theorem Frm.setL (M : Frm c w env L o cs) (hn : ∃ m, ObjNs o' m) : Frm c w env L o' cs := ⟨M.loc, M.frm, M.cells, M.inj, hn, M.na, M.g, M.cna, M.px, M.lk, M.fr⟩
theorem Frm.setC {a : Addr} {ob ob' : Obj} (M : Frm c w env L o cs) (ha : cs.lookup a = some ob) (hv : ∃ v, ob'.data = .cell v) : Frm c w env L o (setCs cs a ob') :=
  ⟨M.loc, M.frm, fun x b e => by
    obtain ⟨y, v, e1, e2⟩ := M.cells x b e
    rw [setCs_lookup]
    by_cases q : b = a
    · obtain ⟨v', hv'⟩ := hv
      rw [if_pos q, ha]; exact ⟨ob', v', rfl, hv'⟩
    · rw [if_neg q]; exact ⟨y, v, e1, e2⟩, M.inj, M.ns, M.na, M.g, fun b z e => by
    rw [setCs_lookup] at e
    by_cases q : b = a
    · subst q; exact M.cna b ob ha
    · rw [if_neg q] at e; exact M.cna b z e, M.px, M.lk, M.fr⟩

noncomputable def VisOK (vis : List (Str × Nat)) : Prop := ∀ x y k, vis.lookup x = some k → vis.lookup y = some k → x = y

theorem store_local {x : Str} {k : Nat} {v : V} {y : Value} {Ex : Value → Shared → Prop} {Q : Unit → Shared → Prop} (I : InF prog ω K c w σ ρ env vis L o cs s.heap) (hvis : VisOK vis) (hx : vis.lookup x = some k) (hl : env.scope.names.lookup x = some .local) (hv : VR K w v y)
    (h : ∀ o' h' tk, InF prog ω K c w σ (upd ρ k v) env vis L o' cs h' → Q () { s with heap := h', toks := tk }) : wpAny (model prog ω) A (storeName env x y) Q Ex s := by
  obtain ⟨S, F, M⟩ := I
  obtain ⟨ob, m, hin, hm, hread⟩ := F.ns
  obtain ⟨m', hns', hread'⟩ := F.locals S
  refine wpAny_storeName_local (m := m') hl hns' (fun h' hn' hs' => ?_) (by rw [F.kind]; rfl)
  obtain ⟨o', ho', hN⟩ := ObjNs.of hn'
  rw [M.loc] at hs' ho'
  refine h o' h' _ ⟨S.setFrame M hs' ho', ⟨F.kind, F.glob, F.bi, ⟨o', _, .inl (by rw [M.loc]; exact List.mem_cons_self ..), hN, fun z j u e1 e2 e3 => ?_⟩, fun z j u e1 e2 e3 => ?_⟩, M.setL ⟨_, hN⟩⟩
  · by_cases q : z = x
    · subst q
      rw [hx] at e1; cases e1
      simp only [upd, if_true, Option.some.injEq] at e3
      subst e3
      exact ⟨y, by simp, hv⟩
    · have hj : j ≠ k := fun e => q (hvis z x k (e ▸ e1) hx)
      simp only [upd, if_neg hj] at e3
      obtain ⟨a, b, d⟩ := hread' z j u e1 e2 e3
      exact ⟨a, by rw [if_neg q]; exact b, d⟩
  · have q : z ≠ x := fun e => by subst e; rw [hl] at e2; rcases e2 with e2 | e2 <;> cases e2
    have hj : j ≠ k := fun e => q (hvis z x k (e ▸ e1) hx)
    simp only [upd, if_neg hj] at e3
    exact F.cells z j u e1 e2 e3

theorem store_cell {x : Str} {k : Nat} {v : V} {y : Value} {Ex : Value → Shared → Prop} {Q : Unit → Shared → Prop} (I : InF prog ω K c w σ ρ env vis L o cs s.heap) (hvis : VisOK vis) (hx : vis.lookup x = some k) (hl : env.scope.names.lookup x = some .cell)
    (hc : (env.cells.lookup x).isSome = true) (hv : VR K w v y)
    (h : ∀ cs' h' tk, keysOfC cs' = keysOfC cs → InF prog ω K c w σ (upd ρ k v) env vis L o cs' h' → Q () { s with heap := h', toks := tk }) : wpAny (model prog ω) A (storeName env x y) Q Ex s := by
  obtain ⟨S, F, M⟩ := I
  obtain ⟨a, ha⟩ := Option.isSome_iff_exists.mp hc
  obtain ⟨ob, v₀, hcs, hob⟩ := M.cells x a ha
  have hpa : (c.frame L o cs).px a = some ob := by show (match cs.lookup a with | some z => some z | none => c.px a) = _; rw [hcs]
  refine wpAny_storeName_cell F.kind hl ha ⟨ob, S.kp _ _ hpa, hob⟩ fun h' hc' hs' => ?_
  obtain ⟨ob', ho', hd'⟩ := hc'
  have S' := S.setCell M hcs hs' ho'
  refine h (setCs cs a ob') h' s.toks (setCs_keys ..) ⟨S', ⟨F.kind, F.glob, F.bi, ?_, fun z j u e1 e2 e3 => ?_⟩, M.setC hcs ⟨_, hd'⟩⟩
  · obtain ⟨o1, m, q, r, t⟩ := F.ns
    refine ⟨o1, m, q.imp id (fun q => ?_), r, fun z j u e1 e2 e3 => ?_⟩
    · exfalso
      rw [M.loc, M.pxL] at q; cases q
    · have q : z ≠ x := fun e => by subst e; rw [hl] at e2; cases e2
      have hj : j ≠ k := fun e => q (hvis z x k (e ▸ e1) hx)
      simp only [upd, if_neg hj] at e3
      exact t z j u e1 e2 e3
  · by_cases q : z = x
    · subst q
      rw [hx] at e1; cases e1
      simp only [upd, if_true, Option.some.injEq] at e3
      subst e3
      refine ⟨a, ob', y, ha, ?_, hd', hv⟩
      show (match (setCs cs a ob').lookup a with | some z => some z | none => c.px a) = _
      rw [setCs_lookup, if_pos rfl, hcs]; rfl
    · have hj : j ≠ k := fun e => q (hvis z x k (e ▸ e1) hx)
      simp only [upd, if_neg hj] at e3
      obtain ⟨b, o1, y1, d1, d2, d3, d4⟩ := F.cells z j u e1 e2 e3
      refine ⟨b, o1, y1, d1, ?_, d3, d4⟩
      have hba : b ≠ a := fun e => q (M.inj z x a (e ▸ d1) ha)
      show (match (setCs cs a ob').lookup b with | some z => some z | none => c.px b) = _
      rw [setCs_lookup, if_neg hba]; exact d2

theorem AOK.setF (H : AOK A n hd (c.frame L o cs) (env :: envs)) (hn : ∃ m, ObjNs o' m) : AOK A n hd (c.frame L o' cs') (env :: envs) :=
  ⟨H.handled, H.depth, H.units, H.frames, let ⟨⟨a, b, _⟩, d⟩ := H.frs; ⟨⟨a, b, let ⟨_, es, ep, e, _⟩ := hn; ⟨es, ep, e⟩⟩, d⟩⟩
end
end Lw
set_option autoImplicit false
namespace Lw
open PySem PySem.W PySem.Calls PyProof.Rows

inductive FlR (K : Frag) (w : Wd) : Fl → Flow → Prop
  | next : FlR K w .next .next
  | ret {v : V} {x : Value} : VR K w v x → FlR K w (.ret v) (.ret x)

noncomputable def XS (prog : Program) (ω : World) (K : Frag) (c : Cx) (w : Wd) (σ' : St) (envs : List Env) (x : String) (s : Shared) (e : Value) (s' : Shared) : Prop := XP prog ω K c w σ' envs x s e s'
theorem XS.mono {prog : Program} {ω : World} {K : Frag} {c : Cx} {w w₁ : Wd} {σ' : St} {envs : List Env} {x : String} {s s₁ s' : Shared} {e : Value}
    (hs : Same s s₁) (hw : w.Le w₁) (h : XS prog ω K c w₁ σ' envs x s₁ e s') : XS prog ω K c w σ' envs x s e s' := XP.mono hs hw h

noncomputable def QS (prog : Program) (ω : World) (K : Frag) (c : Cx) (w : Wd) (env : Env) (vis : List (Str × Nat)) (L : Addr) (cs : List (Addr × Obj)) (s : Shared) (fl : Fl) (ρ' : Rho) (σ' : St) : Flow → Shared → Prop := fun f s' =>
  Same s s' ∧ ∃ w' o' cs', keysOfC cs' = keysOfC cs ∧ w.Le w' ∧ InF prog ω K c w' σ' ρ' env vis L o' cs' s'.heap ∧ FlR K w' fl f
noncomputable def QXS (prog : Program) (ω : World) (K : Frag) (c : Cx) (w : Wd) (env : Env) (vis : List (Str × Nat)) (L : Addr) (cs : List (Addr × Obj)) (envs : List Env) (s : Shared) (fl : Fl) (ρ' : Rho) (σ' : St) : Value → Shared → Prop := fun e s' =>
  ∃ x w₁ o' cs', fl = .exc x ∧ keysOfC cs' = keysOfC cs ∧ w.Le w₁ ∧ FR K (c.frame L o' cs') w₁ env vis ρ' ∧ Frm c w₁ env L o' cs' ∧ XS prog ω K (c.frame L o' cs') w₁ σ' (env :: envs) x s e s'

section
variable (prog : Program) (ω : World) (K : Frag) (mg mb : Str → Option Value) (P : Prog) (cl : Cl) (n : Nat)
noncomputable def SimS (cx : Cxt) (ir : S) (st : Stmt) : Prop :=
  ∀ (hd : Bool) (c : Cx) (w : Wd) (ρ : Rho) (σ : St) (env : Env) (envs : List Env) (A : Around) (s : Shared) (L : Addr) (o : Obj) (cs : List (Addr × Obj)) (fl : Fl) (ρ' : Rho) (σ' : St),
    exec P cl hd ir ρ σ = some (fl, ρ', σ') → Base K c mg mb → InF prog ω K c w σ ρ env cx.vis L o cs s.heap → Fits cx c env → AOK A n hd (c.frame L o cs) (env :: envs) →
    wpAny (model prog ω) A (PySem.exec st env) (QS prog ω K c w env cx.vis L cs s fl ρ' σ') (QXS prog ω K c w env cx.vis L cs envs s fl ρ' σ') s
noncomputable def SimSs (cx : Cxt) (ir : List S) (st : List Stmt) : Prop :=
  ∀ (hd : Bool) (c : Cx) (w : Wd) (ρ : Rho) (σ : St) (env : Env) (envs : List Env) (A : Around) (s : Shared) (L : Addr) (o : Obj) (cs : List (Addr × Obj)) (fl : Fl) (ρ' : Rho) (σ' : St),
    execs P cl hd ir ρ σ = some (fl, ρ', σ') → Base K c mg mb → InF prog ω K c w σ ρ env cx.vis L o cs s.heap → Fits cx c env → AOK A n hd (c.frame L o cs) (env :: envs) →
    wpAny (model prog ω) A (PySem.execs st env) (QS prog ω K c w env cx.vis L cs s fl ρ' σ') (QXS prog ω K c w env cx.vis L cs envs s fl ρ' σ') s
end

section
variable {prog : Program} {ω : World} {K : Frag} {mg mb : Str → Option Value} {P : Prog} {cl : Cl} {n : Nat} {cx : Cxt}
  {hd : Bool} {c : Cx} {w w' : Wd} {ρ ρ' : Rho} {σ σ' : St} {env : Env} {envs : List Env} {A : Around} {s : Shared} {L : Addr} {o o' : Obj} {cs cs' : List (Addr × Obj)} {h h' : Heap} {vis : List (Str × Nat)} {fl : Fl}

theorem Base.frame (B : Base K c mg mb) (M : Frm c w env L o cs) : Base K (c.frame L o cs) mg mb := by
  have hp : ∀ x ob, c.px x = some ob → (c.frame L o cs).px x = some ob := fun x ob e => by
    show (match cs.lookup x with | some z => some z | none => c.px x) = some ob
    cases q : cs.lookup x with
    | none => exact e
    | some z => have := (M.cna x z q).2.2.2.1; rw [this] at e; cases e
  exact ⟨fun a ob e => hp _ _ (B.k a ob e), let ⟨o, e, x⟩ := B.g; ⟨o, hp _ _ e, x⟩, let ⟨o, e, x⟩ := B.b; ⟨o, hp _ _ e, x⟩, B.bi, let ⟨o, mc, e, x⟩ := B.nolim; ⟨o, mc, hp _ _ e, x⟩, B.cls⟩
theorem Fits.frame (H : Fits cx c env) : Fits cx (c.frame L o cs) env := ⟨H.names, H.cls, H.attrs, H.cells⟩

theorem QXS.mono {w₁ : Wd} {s₁ : Shared} {e : Value} {s' : Shared} (hk : keysOfC cs' = keysOfC cs) (hs : Same s s₁) (hw : w.Le w₁) (h : QXS prog ω K c w₁ env vis L cs' envs s₁ fl ρ' σ' e s') : QXS prog ω K c w env vis L cs envs s fl ρ' σ' e s' := by
  obtain ⟨x, w₂, o', cs'', h1, h2, h3, h4, h5, h6⟩ := h
  exact ⟨x, w₂, o', cs'', h1, h2.trans hk, hw.trans h3, h4, h5, h6.mono hs (.refl _)⟩
theorem QS.mono {w₁ : Wd} {s₁ : Shared} {f : Flow} {s' : Shared} (hk : keysOfC cs' = keysOfC cs) (hs : Same s s₁) (hw : w.Le w₁) (h : QS prog ω K c w₁ env vis L cs' s₁ fl ρ' σ' f s') : QS prog ω K c w env vis L cs s fl ρ' σ' f s' := by
  obtain ⟨h0, w₂, o', cs'', h2, h3, h4, h5⟩ := h
  exact ⟨hs.trans h0, w₂, o', cs'', h2.trans hk, hw.trans h3, h4, h5⟩

theorem SimE.bindS {a : E} {e : Expr} {k : V → St → RS} {R : Value → Shared → Prop} {w₀ : Wd} {s₀ : Shared} (ha : SimE prog ω K mg mb P cl n cx a e)
    (hev : bindE (ev P cl hd a ρ σ) ρ k = some (fl, ρ', σ')) (B : Base K c mg mb) (I : InF prog ω K c w σ ρ env cx.vis L o cs s.heap) (hn : Fits cx c env) (hA : AOK A n hd (c.frame L o cs) (env :: envs))
    (hs₀ : Same s₀ s) (hw₀ : w₀.Le w)
    (hk : ∀ x xv σ₁ w₁ s₁, k x σ₁ = some (fl, ρ', σ') → Same s₀ s₁ → w₀.Le w₁ → w.Le w₁ → InF prog ω K c w₁ σ₁ ρ env cx.vis L o cs s₁.heap → VR K w₁ x xv → R xv s₁) :
    wpAny (model prog ω) A (eval e env) R (QXS prog ω K c w₀ env cx.vis L cs envs s₀ fl ρ' σ') s := by
  unfold bindE at hev
  split at hev
  · cases hev
  · rename_i x σ₁ h1
    cases hev
    refine wpAny_mono (ha hd _ w ρ σ env (env :: envs) A s _ _ h1 (B.frame I.M) I.S I.F hn.frame hA) (fun v s₁ q => ?_) fun e s₁ q => ?_
    · obtain ⟨_, _, _, q, _⟩ := q; cases q
    · obtain ⟨y, q, h⟩ := q; cases q; exact ⟨_, w, o, cs, rfl, rfl, hw₀, I.F, I.M, XS.mono hs₀ (.refl _) h⟩
  · rename_i x σ₁ h1
    refine wpAny_mono (ha hd _ w ρ σ env (env :: envs) A s _ _ h1 (B.frame I.M) I.S I.F hn.frame hA) (fun v s₁ q => ?_) fun e s₁ q => ?_
    · obtain ⟨hs, w₁, y, q, hw, S₁, hv⟩ := q; cases q
      exact hk _ _ _ _ _ hev (hs₀.trans hs) (hw₀.trans hw) hw (I.mono S₁ hw) hv
    · obtain ⟨y, q, _⟩ := q; cases q

theorem swaps_plain {v : Expr} {t : Option Expr} {l : Nat} (h : notComp v = true) : swapsWith v t l env = pure false := by
  cases v <;> first | rfl | (exact (Bool.false_ne_true h).elim)
theorem not_interactive (h : env.scope.kind = .function) : interactive env = false := by unfold interactive; rw [h]; rfl

theorem sim_expr {a : E} {e : Expr} {pos : Pos} (hc : notComp e = true) (ha : Sim prog ω K mg mb P cl n cx a e) : SimS prog ω K mg mb P cl n cx (.expr a) (.Expr e pos) := by
  intro hd c w ρ σ env envs A s L o cs fl ρ' σ' hev B I hn hA
  rw [x_expr] at hev
  refine wpAny_Expr_any (ha.v.bindS hev B I hn hA (.refl _) (.refl _) fun x xv σ₁ w₁ s₁ hk hs hw _ I₁ hx => ?_) (not_interactive I.F.kind) (swaps_plain hc)
  simp only [Option.some.injEq, Prod.mk.injEq] at hk
  obtain ⟨rfl, rfl, rfl⟩ := hk
  exact ⟨hs, w₁, o, cs, rfl, hw, I₁, .next⟩

theorem sim_ret {a : E} {e : Expr} {pos : Pos} (ha : Sim prog ω K mg mb P cl n cx a e) : SimS prog ω K mg mb P cl n cx (.ret a) (.Return (some e) pos) := by
  intro hd c w ρ σ env envs A s L o cs fl ρ' σ' hev B I hn hA
  rw [x_ret] at hev
  refine wpAny_Return_some (ha.v.bindS hev B I hn hA (.refl _) (.refl _) fun x xv σ₁ w₁ s₁ hk hs hw _ I₁ hx => ?_)
  simp only [Option.some.injEq, Prod.mk.injEq] at hk
  obtain ⟨rfl, rfl, rfl⟩ := hk
  exact ⟨hs, w₁, o, cs, rfl, hw, I₁, .ret hx⟩

theorem sim_assignL {a : E} {e : Expr} {k : Nat} {x : Str} {p pos : Pos} (hvis : VisOK cx.vis) (hx : cx.vis.lookup x = some k) (hl : cx.scope.names.lookup x = some .local) (hc : notComp e = true) (ha : Sim prog ω K mg mb P cl n cx a e) :
    SimS prog ω K mg mb P cl n cx (.assign k a) (.Assign [.Name x p] e pos) := by
  intro hd c w ρ σ env envs A s L o cs fl ρ' σ' hev B I hn hA
  rw [x_assign] at hev
  refine wpAny_Assign_Name (ha.v.bindS hev B I hn hA (.refl _) (.refl _) fun y yv σ₁ w₁ s₁ hk hs hw _ I₁ hy => ?_) (swaps_plain hc)
  simp only [Option.some.injEq, Prod.mk.injEq] at hk
  obtain ⟨rfl, rfl, rfl⟩ := hk
  refine store_local I₁ hvis hx (by rw [hn.names]; exact hl) hy fun o' h' tk I₂ => ⟨hs.trans (.of _ _ _), w₁, o', cs, rfl, hw, I₂, .next⟩

theorem sim_assignC {a : E} {e : Expr} {k : Nat} {x : Str} {p pos : Pos} (hvis : VisOK cx.vis) (hx : cx.vis.lookup x = some k) (hl : cx.scope.names.lookup x = some .cell) (hc : notComp e = true) (ha : Sim prog ω K mg mb P cl n cx a e) :
    SimS prog ω K mg mb P cl n cx (.assign k a) (.Assign [.Name x p] e pos) := by
  intro hd c w ρ σ env envs A s L o cs fl ρ' σ' hev B I hn hA
  rw [x_assign] at hev
  refine wpAny_Assign_Name (ha.v.bindS hev B I hn hA (.refl _) (.refl _) fun y yv σ₁ w₁ s₁ hk hs hw _ I₁ hy => ?_) (swaps_plain hc)
  simp only [Option.some.injEq, Prod.mk.injEq] at hk
  obtain ⟨rfl, rfl, rfl⟩ := hk
  refine store_cell I₁ hvis hx (by rw [hn.names]; exact hl) (hn.cells x hl) hy fun cs' h' tk hkeys I₂ => ⟨hs.trans (.of _ _ _), w₁, o, cs', hkeys, hw, I₂, .next⟩

theorem sims_nil : SimSs prog ω K mg mb P cl n cx [] [] := by
  intro hd c w ρ σ env envs A s L o cs fl ρ' σ' hev B I hn hA
  simp only [execs, Option.some.injEq, Prod.mk.injEq] at hev
  obtain ⟨rfl, rfl, rfl⟩ := hev
  exact wpAny_execs_nil ⟨.refl _, w, o, cs, rfl, .refl _, I, .next⟩

theorem sims_cons {a : S} {r : List S} {st : Stmt} {rest : List Stmt} (ha : SimS prog ω K mg mb P cl n cx a st) (hr : SimSs prog ω K mg mb P cl n cx r rest) : SimSs prog ω K mg mb P cl n cx (a :: r) (st :: rest) := by
  intro hd c w ρ σ env envs A s L o cs fl ρ' σ' hev B I hn hA
  rw [execs] at hev
  cases h1 : exec P cl hd a ρ σ with
  | none => rw [h1] at hev; cases hev
  | some q =>
    obtain ⟨fl₁, ρ₁, σ₁⟩ := q
    rw [h1] at hev
    have key := ha hd c w ρ σ env envs A s L o cs fl₁ ρ₁ σ₁ h1 B I hn hA
    cases fl₁ with
    | next =>
      simp only [bindS] at hev
      refine wpAny_execs_cons (wpAny_mono key (fun f s₁ q => ?_) fun e s₁ q => ?_)
      · obtain ⟨hs, w₁, o₁, cs₁, hk, hw, I₁, hf⟩ := q
        cases hf
        dsimp only
        exact wpAny_mono (hr hd c w₁ ρ₁ σ₁ env envs A s₁ L o₁ cs₁ fl ρ' σ' hev B I₁ hn (hA.setF I₁.M.ns)) (fun _ _ q => q.mono hk hs hw) fun _ _ q => q.mono hk hs hw
      · obtain ⟨x, _, _, _, q, _⟩ := q; cases q
    | ret v =>
      simp only [bindS, Option.some.injEq, Prod.mk.injEq] at hev
      obtain ⟨rfl, rfl, rfl⟩ := hev
      refine wpAny_execs_cons (wpAny_mono key (fun f s₁ q => ?_) fun e s₁ q => q)
      have q' := q
      obtain ⟨_, _, _, _, _, _, _, hf⟩ := q'
      cases hf
      exact q
    | exc x =>
      simp only [bindS, Option.some.injEq, Prod.mk.injEq] at hev
      obtain ⟨rfl, rfl, rfl⟩ := hev
      refine wpAny_execs_cons (wpAny_mono key (fun f s₁ q => ?_) fun e s₁ q => q)
      obtain ⟨_, _, _, _, _, _, _, hf⟩ := q
      cases hf

theorem sim_ite {a : E} {t f : List S} {e : Expr} {ts fs : List Stmt} {pos : Pos} (ha : Sim prog ω K mg mb P cl n cx a e) (ht : SimSs prog ω K mg mb P cl n cx t ts) (hf : SimSs prog ω K mg mb P cl n cx f fs) :
    SimS prog ω K mg mb P cl n cx (.ite a t f) (.If e ts fs pos) := by
  intro hd c w ρ σ env envs A s L o cs fl ρ' σ' hev B I hn hA
  rw [x_ite] at hev
  refine wpAny_If ?_
  cases h1 : ev P cl hd a ρ σ with
  | none => rw [h1] at hev; cases hev
  | some q =>
    obtain ⟨ra, σ₁⟩ := q
    rw [h1] at hev
    cases ra with
    | exc x =>
      simp only [bindE, Option.some.injEq, Prod.mk.injEq] at hev
      obtain ⟨rfl, rfl, rfl⟩ := hev
      refine wpAny_mono (ha.t hd _ w ρ σ env (env :: envs) A s _ _ h1 (fun _ q => by cases q) (B.frame I.M) I.S I.F hn.frame hA) (fun v s₁ q => ?_) fun e s₁ q => ?_
      · obtain ⟨_, _, _, q, _⟩ := q; cases q
      · obtain ⟨y, q, h⟩ := q; cases q; exact ⟨_, w, o, cs, rfl, rfl, .refl _, I.F, I.M, h⟩
    | ok v =>
      simp only [bindE] at hev
      have htv : ∃ t, truthV σ₁ v = some t := by
        cases q : truthV σ₁ v with
        | none => rw [q] at hev; cases hev
        | some t => exact ⟨t, rfl⟩
      obtain ⟨b, hb⟩ := htv
      rw [hb] at hev
      refine wpAny_mono (ha.t hd _ w ρ σ env (env :: envs) A s _ _ h1 (fun _ q => by cases q; exact ⟨b, hb⟩) (B.frame I.M) I.S I.F hn.frame hA) (fun b' s₁ q => ?_) fun e s₁ q => ?_
      · obtain ⟨hs, w₁, y, q, hb', hw, S₁⟩ := q; cases q
        rw [hb] at hb'; cases hb'
        have I₁ := I.mono S₁ hw
        cases b with
        | true => exact wpAny_mono (ht hd c w₁ ρ σ₁ env envs A s₁ L o cs fl ρ' σ' hev B I₁ hn hA) (fun _ _ q => q.mono rfl hs hw) fun _ _ q => q.mono rfl hs hw
        | false => exact wpAny_mono (hf hd c w₁ ρ σ₁ env envs A s₁ L o cs fl ρ' σ' hev B I₁ hn hA) (fun _ _ q => q.mono rfl hs hw) fun _ _ q => q.mono rfl hs hw
      · obtain ⟨y, q, _⟩ := q; cases q

theorem FsR.length {fs : List (String × V)} {es : List DictEntry} (r : FsR ω K w fs es) : fs.length = es.length := by
  induction r with
  | nil => rfl
  | cons _ _ ih => simp [ih]
theorem FsR.put {fs : List (String × V)} {es : List DictEntry} {a : String} {v : V} {x : Value} {t : Tok} (r : FsR ω K w fs es) (hv : VR K w v x) :
    FsR ω K w (setF fs a v) (putL (Str.ofString a) (PyData.keyHash ω.params (Str.ofString a)) (.str (Str.ofString a) t) x es) := by
  induction r with
  | nil => exact .cons hv .nil
  | @cons b u y t' fs es hu hr ih =>
    unfold setF putL
    by_cases q : b = a
    · subst q
      have : (Value.str (Str.ofString b) t').isStr (Str.ofString b) = true := by simp [Value.isStr]
      rw [if_pos rfl, if_pos this]
      exact .cons hv hr
    · have : ¬ (Value.str (Str.ofString b) t').isStr (Str.ofString a) = true := by
        simp only [Value.isStr, beq_iff_eq]
        exact fun e => q (ofString_inj e)
      rw [if_neg q, if_neg this]
      exact .cons hu ih
theorem putL_len (name : Str) (hsh : Int) (key v : Value) : ∀ es : List DictEntry, (putL name hsh key v es).length ≤ es.length + 1
  | [] => by simp [putL]
  | e :: r => by
    unfold putL
    split
    · simp
    · have := putL_len name hsh key v r
      simp only [List.length_cons]; omega

theorem osa_at {x C dx : Addr} {ox : Obj} {name : Str} {tk : Tok} {v : Value} {es : List DictEntry} {k : Nat} {R : Result → Shared → Prop} (X : K.In s.heap)
    (I : InstAt s.heap x ox C (some (dictOf es k))) (hd : ox.dict = some dx) (hp : plainOver K C = true) (ht : takerIn K C name = some none) (hh : (clsIn K C).any (·.hasDict) = true)
    (hl : (lookIn name (dictOf es k)).isSome = true) (D : s.heap.get? dx = some (dictOf es k)) (hz : es.length ≤ 900)
    (h : ∀ h', Heap.SameBut dx s.heap h' → h'.get? dx = some (dictOf (putL name (PyData.keyHash ω.params name) (.str name s.toks) v es) (putN name es k)) → R (.ok (.ret .none)) { s with heap := h', toks := s.toks + 1 }) :
    codeAny (model prog ω) A (.call (.builtin "object.__setattr__") ⟨[.ref x, .str name tk, v], []⟩) R s := by
  refine osa_open X I hp ht fun b => ?_
  obtain ⟨cd, hc, hd'⟩ := any_some hh
  have D' : (s.heap.update dx (Obj.putName name (PyData.keyHash ω.params name) (.str name s.toks) v)).get? dx = some (dictOf (putL name (PyData.keyHash ω.params name) (.str name s.toks) v es) (putN name es k)) := by
    rw [Heap.get?_update_self _ D (by rw [putName_dict]; rfl), putName_dict]
  obtain ⟨hx, hcl, hn, -⟩ := I
  obtain ⟨oc, odi, oda, osl⟩ := ox
  dsimp only at hcl hd
  subst hcl hd
  refine wpAny_bind (wpAny_pure (wpAny_bind (wpAny_bind (wpAny_loadPart hx (wpAny_bind ((looks_clsIn X hc).here ?_))))))
  rw [hd']
  refine wpAny_pure (a := some dx) (wpAny_bind (wpAny_pure (wpAny_bind ?_)))
  unfold nsSet
  refine wpAny_bind (wpAny_bind (wpAny_askSetting (wpAny_pure (wpAny_bind (wpAny_mkText (wpAny_bind (wpAny_loadPart D ?_)))))))
  have c : (!(es.toArray.any (·.key.isStr name)) && es.toArray.any (·.refKey)) = false := by
    unfold lookIn dictOf at hl
    simp only at hl
    rw [← Array.any_toList, ← Array.any_toList]
    split at hl
    · rename_i en he
      have hm := List.mem_of_find?_eq_some he
      have hs := List.find?_some he
      rw [List.any_eq_true.mpr ⟨en, hm, hs⟩]; rfl
    · split at hl
      · cases hl
      · rename_i z; rw [Bool.not_eq_true] at z; rw [z, Bool.and_false]
  unfold dictOf at D ⊢
  dsimp only
  rw [aRefKeyMayBeTheName_at, c]
  refine wpAny_updatePart D ?_
  refine wpAny_bind (wpAny_lookBehind D' (pastItsLine_dict (by rw [List.size_toArray, sizeLine_eq]; have := putL_len name (PyData.keyHash ω.params name) (.str name s.toks) v es; omega)) ?_)
  exact wpAny_pure (h _ (Heap.SameBut.update ..) D')
end
end Lw
set_option autoImplicit false
namespace Lw
open PySem PySem.W PySem.Calls PyProof.Rows

section
variable {prog : Program} {ω : World} {K : Frag} {mg mb : Str → Option Value} {P : Prog} {cl : Cl} {n : Nat} {cx : Cxt}
  {hd : Bool} {c : Cx} {w w' : Wd} {ρ ρ' : Rho} {σ σ' : St} {env : Env} {envs : List Env} {A : Around} {s : Shared} {L : Addr} {o o' : Obj} {cs cs' : List (Addr × Obj)} {h h' : Heap} {vis : List (Str × Nat)} {fl : Fl}

theorem setattr_sound {ov v : V} {ox x : Value} {a : String} {Ex : Value → Shared → Prop} {Q : Unit → Shared → Prop} (B : Base K c mg mb) (S : SR prog ω K c w σ s.heap) (ho : VR K w ov ox) (hx : VR K w v x) (ha : a ∈ c.an) (hs : setattrV ov a v σ = some σ')
    (h : ∀ h' tk, SR prog ω K c w σ' h' → Q () { s with heap := h', toks := tk }) : wpAny (model prog ω) A (setAttr ox (Str.ofString a) x) Q Ex s := by
  unfold setattrV at hs
  cases ho with
  | @ref i p hp =>
    dsimp only at hs
    split at hs
    · rename_i cn fs hg
      split at hs
      · rename_i hlen
        cases hs
        obtain ⟨q, hq, r⟩ := S.obj _ _ hg
        rw [hp] at hq; cases hq
        obtain ⟨hne, hcn, C, es, k, hC, h1, h2, hfs, l1, l2⟩ := r
        obtain ⟨C', hC', hok⟩ := B.cls _ hcn
        rw [hC] at hC'; cases hC'
        obtain ⟨g1, g2, g3, g4, g5, g6, g7⟩ := clsOk_parts hok
        have I : InstAt s.heap p.1 (instObj C p.2) C (some (dictOf es k)) := ⟨h1, rfl, rfl, h2⟩
        refine set_plain (B.kin S) I g4 (osa_at (s := { s with toks := s.toks + 1 }) (B.kin S) I rfl g5 ?_ ?_ ?_ h2 ?_ fun h' hS hat => ?_)
        · unfold takerIn; rw [g7 a ha]; rfl
        · exact g3
        · cases q : lk fs a with
          | none => rw [(fs_look (k := k) hfs a).2 q]; rfl
          | some u => obtain ⟨y, hy, _⟩ := (fs_look (k := k) hfs a).1 u q; rw [hy]; rfl
        · rw [← hfs.length]; omega
        · refine h h' _ (S.upd hp hg (.inr rfl) l2 hS ⟨_, hat⟩ ⟨hne, hcn, C, _, _, hC, (hS.2 p.1 hne).trans h1, hat, hfs.put hx, l1, l2⟩)
      · cases hs
    · cases hs
  | _ => simp at hs

theorem sim_setattr {oe ve : Expr} {a : String} {e1 e2 : E} {p pos : Pos} (hat : cx.attrs.contains a = true) (hc : notComp ve = true) (ho : Sim prog ω K mg mb P cl n cx e1 oe) (hv : Sim prog ω K mg mb P cl n cx e2 ve) :
    SimS prog ω K mg mb P cl n cx (.setattr e1 a e2) (.Assign [.Attribute oe (Str.ofString a) p] ve pos) := by
  intro hd c w ρ σ env envs A s L o cs fl ρ' σ' hev B I hn hA
  rw [x_setattr] at hev
  refine plainObj_wpAny_Assign_Attribute (hv.v.bindS hev B I hn hA (.refl _) (.refl _) fun y yv σ₁ w₁ s₁ hk hs hw _ I₁ hy => ?_) (swaps_plain hc)
  refine ho.v.bindS hk B I₁ hn hA hs hw fun x xv σ₂ w₂ s₂ hk hs₂ hw₂ hw12 I₂ hx => ?_
  split at hk
  · rename_i σ₃ h3
    simp only [Option.some.injEq, Prod.mk.injEq] at hk
    obtain ⟨rfl, rfl, rfl⟩ := hk
    refine setattr_sound (B.frame I₂.M) I₂.S hx (hy.mono hw12) (by show a ∈ c.an; rw [← hn.attrs]; simpa using hat) h3 fun h' tk S' => ?_
    exact ⟨hs₂.trans (.of _ _ _), w₂, o, cs, rfl, hw₂, I₂.mono S' (.refl _), .next⟩
  · cases hk

theorem setidx_sound {ov k v : V} {ox kx x : Value} {Ex : Value → Shared → Prop} {Q : Unit → Shared → Prop} (S : SR prog ω K c w σ s.heap) (ho : VR K w ov ox) (hkx : VR K w k kx) (hx : VR K w v x) (hs : setidxV ov k v σ = some σ')
    (h : ∀ h' tk, SR prog ω K c w σ' h' → Q () { s with heap := h', toks := tk }) : wpAny (model prog ω) A (setItem ox kx x) Q Ex s := by
  unfold setidxV at hs
  cases ho with
  | @ref i p hp =>
    dsimp only at hs
    split at hs
    · rename_i es hg
      obtain ⟨q, hq, rr⟩ := S.obj _ _ hg
      rw [hp] at hq; cases hq
      obtain ⟨ep, ob, kvs, r1, r2, r3, r6, r4, r5⟩ := rr
      cases hkx <;> simp only [reduceCtorEq] at hs
      rename_i j t jok
      split at hs
      · rename_i hl
        cases hs
        have hD : s.heap.DictOf (PySem.strKind prog ω) p.1 kvs := Heap.dictOf_iff.mpr ⟨ob, r1, r2⟩
        refine wpAny_setItem_pairs (knd := PySem.strKind prog ω) (k := j) (strKind_is prog ω j t) hD (fun h' hD' hS => ?_) (by rw [← r3.length]; exact lim_size r4)
        obtain ⟨o', ho', hdo⟩ := Heap.dictOf_iff.mp hD'
        refine h h' _ (S.upd hp hg (.inl rfl) r5 hS ⟨_, ho'⟩ ⟨ep, o', _, ho', hdo, r3.st j hx, fun kv hkv => ?_, Nat.le_trans (len_st _ _ _) hl, r5⟩)
        rcases mem_st hkv with e | ⟨kv', hm, e⟩
        · rw [e]; exact jok
        · rw [← e]; exact r6 kv' hm
      · cases hs
    · cases hs
  | _ => simp at hs

theorem sim_setidx {oe ie ve : Expr} {e1 e2 e3 : E} {p pos : Pos} (hc : notComp ve = true) (ho : Sim prog ω K mg mb P cl n cx e1 oe) (hi : Sim prog ω K mg mb P cl n cx e2 ie) (hv : Sim prog ω K mg mb P cl n cx e3 ve) :
    SimS prog ω K mg mb P cl n cx (.setidx e1 e2 e3) (.Assign [.Subscript oe ie p] ve pos) := by
  intro hd c w ρ σ env envs A s L o cs fl ρ' σ' hev B I hn hA
  rw [x_setidx] at hev
  refine wpAny_Assign_Subscript (hv.v.bindS hev B I hn hA (.refl _) (.refl _) fun y yv σ₁ w₁ s₁ hk hs hw _ I₁ hy => ?_) (swaps_plain hc)
  refine ho.v.bindS hk B I₁ hn hA hs hw fun x xv σ₂ w₂ s₂ hk hs₂ hw₂ hw12 I₂ hx => ?_
  refine hi.v.bindS hk B I₂ hn hA hs₂ hw₂ fun z zv σ₃ w₃ s₃ hk hs₃ hw₃ hw23 I₃ hz => ?_
  split at hk
  · rename_i σ₄ h4
    simp only [Option.some.injEq, Prod.mk.injEq] at hk
    obtain ⟨rfl, rfl, rfl⟩ := hk
    refine setidx_sound I₃.S (hx.mono hw23) hz ((hy.mono hw12).mono hw23) h4 fun h' tk S' => ?_
    exact ⟨hs₃.trans (.of _ _ _), w₃, o, cs, rfl, hw₃, I₃.mono S' (.refl _), .next⟩
  · cases hk
end
end Lw
set_option autoImplicit false
namespace Lw
open PySem PySem.W PySem.Calls PyProof.Rows

noncomputable def Cx.lockAt (c : Cx) (a : Addr) (ob : Obj) : Cx := { c with lk := fun x => if x = a then some ob else c.lk x }

section
variable {prog : Program} {ω : World} {K : Frag} {mg mb : Str → Option Value} {P : Prog} {cl : Cl} {n : Nat} {cx : Cxt}
  {hd : Bool} {c c' : Cx} {w w' : Wd} {ρ ρ' : Rho} {σ σ' : St} {env : Env} {envs : List Env} {A : Around} {s : Shared} {L : Addr} {o o' : Obj} {cs cs' : List (Addr × Obj)} {h h' : Heap} {vis : List (Str × Nat)} {fl : Fl}

theorem ORel.lkc {p : Addr × Addr} {ob : O} (hcn : c'.cn = c.cn) (h1 : c'.lk p.1 = c.lk p.1) (h2 : c'.lk p.2 = c.lk p.2) (r : ORel prog ω K c w h p ob) : ORel prog ω K c' w h p ob := by
  cases ob <;> (unfold ORel at *; first | (rw [h1]; exact r) | (rw [h1, h2, hcn]; exact r))

theorem SR.lock {i : Nat} {p : Addr × Addr} {q : O} {ob : Obj} (S : SR prog ω K c w σ h) (hp : w.φ[i]? = some p) (hg : σ.get i = some q) (hq : ∀ cn fs, q ≠ .inst cn fs) (hob : h.get? p.1 = some ob) : SR prog ω K (c.lockAt p.1 ob) w (σ.set i q.locked) h where
  kg := S.kg
  kp := S.kp
  kl x y e := by
    change (if x = p.1 then some ob else c.lk x) = some y at e
    split at e
    · rename_i z; cases e; rw [z]; exact hob
    · exact S.kl x y e
  kf := S.kf
  len := S.len
  used := S.used
  obj j q' e := by
    change (if j = i then some q.locked else σ.f j) = some q' at e
    split at e
    · rename_i z; cases e; subst z
      obtain ⟨p', hp', r⟩ := S.obj _ _ hg
      rw [hp] at hp'; cases hp'
      refine ⟨p, hp, ?_⟩
      have hlk : (c.lockAt p.1 ob).lk p.1 = some ob := by show (if p.1 = p.1 then _ else _) = _; rw [if_pos rfl]
      cases q with
      | list lk vs =>
        obtain ⟨e1, xs, k, r1, r2, r3, _⟩ := r
        rw [hob] at r1; cases r1
        exact ⟨e1, xs, k, hob, r2, r3, hlk⟩
      | di lk es =>
        obtain ⟨e1, o1, kvs, r1, r2, r3, r4, _⟩ := r
        rw [hob] at r1; cases r1
        exact ⟨e1, _, kvs, hob, r2, r3, r4, hlk⟩
      | ds lk es =>
        obtain ⟨e1, o1, kvs, r1, r2, r3, r4, r5, _⟩ := r
        rw [hob] at r1; cases r1
        exact ⟨e1, _, kvs, hob, r2, r3, r4, r5, hlk⟩
      | inst cn fs => exact absurd rfl (hq cn fs)
    · rename_i z
      obtain ⟨p', hp', r⟩ := S.obj j q' e
      have ap := S.apart j i p' p z hp' hp
      refine ⟨p', hp', ORel.lkc (c := c) (c' := c.lockAt p.1 ob) rfl ?_ ?_ r⟩
      · show (if p'.1 = p.1 then _ else _) = _; rw [if_neg ap.1]
      · show (if p'.2 = p.1 then _ else _) = _; rw [if_neg ap.2.2.1]
  out := S.out
  apart := S.apart

theorem SR.unlock {i : Nat} {p : Addr × Addr} {q : O} {ob : Obj} {h₀ : Heap} (S : SR prog ω K (c.lockAt p.1 ob) w' σ' h') (hp : w.φ[i]? = some p) (hw : w.Le w') (r : ORel prog ω K c w h₀ p q) (hob : h₀.get? p.1 = some ob) (h2 : p.2 = p.1) :
    SR prog ω K c w' (σ'.set i q) h' := by
  have hlk : (c.lockAt p.1 ob).lk p.1 = some ob := by show (if p.1 = p.1 then _ else _) = _; rw [if_pos rfl]
  have hob' : h'.get? p.1 = some ob := S.kl _ _ hlk
  have hp' := hw.get hp
  have lkeq : ∀ x, x ≠ p.1 → (c.lockAt p.1 ob).lk x = c.lk x := fun x hx => by show (if x = p.1 then _ else _) = _; rw [if_neg hx]
  refine ⟨S.kg, S.kp, fun x y e => ?_, S.kf, S.len, S.used, fun j q' e => ?_, S.out, S.apart⟩
  · by_cases z : x = p.1
    · have : y = ob := by
        rw [z] at e
        cases q with
        | list lk vs =>
          obtain ⟨_, xs, k, r1, _, _, r4⟩ := r
          rw [hob] at r1; cases r1
          cases lk <;> simp only [Bool.false_eq_true, if_false, if_true] at r4
          · rw [r4] at e; cases e
          · rw [r4] at e; cases e; rfl
        | di lk es =>
          obtain ⟨_, o1, kvs, r1, _, _, _, r4⟩ := r
          rw [hob] at r1; cases r1
          cases lk <;> simp only [Bool.false_eq_true, if_false, if_true] at r4
          · rw [r4] at e; cases e
          · rw [r4] at e; cases e; rfl
        | ds lk es =>
          obtain ⟨_, o1, kvs, r1, _, _, _, _, r4⟩ := r
          rw [hob] at r1; cases r1
          cases lk <;> simp only [Bool.false_eq_true, if_false, if_true] at r4
          · rw [r4] at e; cases e
          · rw [r4] at e; cases e; rfl
        | inst cn fs =>
          obtain ⟨hne, _⟩ := r
          exact absurd h2.symm hne
      rw [z, this]; exact hob'
    · exact S.kl x y ((lkeq x z).trans e)
  · change (if j = i then some q else σ'.f j) = some q' at e
    split at e
    · rename_i z; cases e; subst z
      refine ⟨p, hp', r.mono hw fun b x hb e => ?_⟩
      have : b = p.1 := by rcases hb with q | q; exact q; exact q.trans h2
      subst this
      rw [hob] at e; cases e; exact hob'
    · rename_i z
      obtain ⟨p', hp'', r'⟩ := S.obj j q' e
      have ap := S.apart j i p' p z hp'' hp'
      exact ⟨p', hp'', ORel.lkc (c := c.lockAt p.1 ob) (c' := c) rfl (lkeq _ ap.1).symm (lkeq _ ap.2.2.1).symm r'⟩

inductive Lk (prog : Program) (ω : World) (K : Frag) (c : Cx) (w : Wd) (h : Heap) (σ : St) : V → Cx → Prop
  | on {i : Nat} {p : Addr × Addr} {q : O} {ob : Obj} : w.φ[i]? = some p → σ.get i = some q → (∀ cn fs, q ≠ .inst cn fs) → h.get? p.1 = some ob → ORel prog ω K c w h p q → p.2 = p.1 → Lk prog ω K c w h σ (.ref i) (c.lockAt p.1 ob)
  | off {v : V} : lockV σ v = σ → (∀ σ', unlockV σ v σ' = σ') → Lk prog ω K c w h σ v c

theorem Lk.sr {v : V} (S : SR prog ω K c w σ h) (l : Lk prog ω K c w h σ v c') : SR prog ω K c' w (lockV σ v) h := by
  cases l with
  | @on i p q ob a b d e _ _ =>
    have : lockV σ (.ref i) = σ.set i q.locked := by unfold lockV; simp only [b]
    rw [this]; exact S.lock a b d e
  | off a _ => rw [a]; exact S
theorem Lk.unlock {v : V} (l : Lk prog ω K c w h σ v c') (hw : w.Le w') (S : SR prog ω K c' w' σ' h') : SR prog ω K c w' (unlockV σ v σ') h' := by
  cases l with
  | @on i p q ob a b d e f g =>
    have : unlockV σ (.ref i) σ' = σ'.set i q := by unfold unlockV; simp only [b]
    rw [this]; exact S.unlock a hw f e g
  | off _ b => rw [b]; exact S
theorem Lk.frame {v : V} (l : Lk prog ω K c w h σ v c') : Lk prog ω K (c.frame L o cs) w h σ v (c'.frame L o cs) := by
  cases l with
  | on a b d e f g => exact .on a b d e (f.cx rfl rfl) g
  | off a b => exact .off a b
theorem Lk.ge {v : V} (l : Lk prog ω K c w h σ v c') : c.Ge c' := by
  cases l with
  | on => exact ⟨fun _ _ e => e, rfl, rfl, rfl⟩
  | off => exact ⟨fun _ _ e => e, rfl, rfl, rfl⟩
theorem Lk.px {v : V} (l : Lk prog ω K c w h σ v c') : c'.px = c.px := by cases l <;> rfl
theorem Lk.fr {v : V} (l : Lk prog ω K c w h σ v c') : c'.fr = c.fr := by cases l <;> rfl
theorem Lk.frm {v : V} (S : SR prog ω K (c.frame L o cs) w σ h) (l : Lk prog ω K c w h σ v c') (M : Frm c w env L o cs) : Frm c' w env L o cs := by
  cases l with
  | @on i p q ob a b d e f g =>
    have out := S.out _ _ a
    have nL : L ≠ p.1 := (out.2.2.1 (L, o) (List.mem_cons_self ..)).1
    have nc : ∀ x y, cs.lookup x = some y → x ≠ p.1 := fun x y hx z => by
      have := out.2.2.2.2.2.2.1
      change (match cs.lookup p.1 with | some ob => some ob | none => c.px p.1) = none at this
      rw [← z, hx] at this; cases this
    exact ⟨M.loc, M.frm, M.cells, M.inj, M.ns, M.na, M.g, fun x y hx => by
      obtain ⟨h1, h2, h3, h4, h5, h6⟩ := M.cna x y hx
      exact ⟨h1, h2, h3, h4, by show (if x = p.1 then _ else _) = _; rw [if_neg (nc x y hx)]; exact h5, h6⟩, M.px, by show (if L = p.1 then _ else _) = _; rw [if_neg nL]; exact M.lk, M.fr⟩
  | off => exact M

structure Itr (prog : Program) (ω : World) (K : Frag) (A : Around) (hd : Bool) (w : Wd) (tgt : Expr) (I : Addr) (fp : List Addr) (vs : List V) (St : Nat → Heap → Prop) : Prop where
  frame : ∀ i h h', St i h → (∀ b, b = I ∨ b ∈ fp → ∀ o, h.get? b = some o → h'.get? b = some o) → St i h'
  at_ : ∀ i h, St i h → ∃ o, h.get? I = some o
  item : ∀ i v (s : Shared) (Q : Option Value → Shared → Prop) (Ex : Value → Shared → Prop), vs[i]? = some v → St i s.heap →
    (∀ x h' tk, VR K w v x → St (i + 1) h' → (∀ b o, b ≠ I → s.heap.get? b = some o → h'.get? b = some o) → Q (some x) { s with heap := h', toks := tk }) → wpAny (model prog ω) A (pyNext (.ref I)) Q Ex s
  done : hd = false → ∀ (s : Shared) (Q : Option Value → Shared → Prop) (Ex : Value → Shared → Prop), St vs.length s.heap →
    (∀ h' tk, (∀ b o, b ≠ I → s.heap.get? b = some o → h'.get? b = some o) → Q none { s with heap := h', toks := tk }) → wpAny (model prog ω) A (pyNext (.ref I)) Q Ex s
  self : ∀ i (s : Shared) (Q : Value → Shared → Prop) (Ex : Value → Shared → Prop), St i s.heap → Q (.ref I) s → wpAny (model prog ω) A (pyIter (.ref I)) Q Ex s
  go : ∀ i (s : Shared) (x : Value) (Q : Unit → Shared → Prop) (Ex : Value → Shared → Prop), ((∀ y p, tgt ≠ .Name y p) → ∃ T, x = .ref T) → St i s.heap → Q () s → wpAny (model prog ω) A (letOwnedTupleGo tgt (.ref I) x) Q Ex s

noncomputable def TgtOK (v : V) : Expr → Prop
  | .Name _ _ => True
  | .Tuple _ _ _ => ∃ vs, v = .lst vs
  | _ => False

theorem walks_itr {I : Addr} {fp : List Addr} {m : Nat} {Pr : Nat → Value → Prop} {St : Nat → Heap → Prop} {vs : List V} {tgt : Expr} (W : Walks prog ω A I (I :: fp) [I] m Pr St) (hm : m = vs.length) (hP : ∀ i v x, vs[i]? = some v → Pr i x → VR K w v x)
    (hat : ∀ i h, St i h → ∃ o, h.get? I = some o) (hgo : ∀ i (s : Shared) (x : Value) (Q : Unit → Shared → Prop) (Ex : Value → Shared → Prop), ((∀ y p, tgt ≠ .Name y p) → ∃ T, x = .ref T) → St i s.heap → Q () s → wpAny (model prog ω) A (letOwnedTupleGo tgt (.ref I) x) Q Ex s) :
    Itr prog ω K A hd w tgt I fp vs St where
  frame i h h' st k := W.frame i h h' st fun b hb o e => k b (by simpa using hb) o e
  at_ := hat
  item i v s Q Ex hv st hQ := by
    have hi : i < m := by rw [hm]; exact (List.getElem?_eq_some_iff.mp hv).1
    exact W.item i s Q Ex hi st fun x h' tk hx st' k => hQ x h' tk (hP i v x hv hx) st' fun b o hb e => k b o (by simpa using hb) e
  done _ s Q Ex st hQ := W.done s Q Ex (by rw [hm]; exact st) fun h' tk k => hQ h' tk fun b o hb e => k b o (by simpa using hb) e
  self := W.self
  go := hgo

theorem go_name {x : Str} {p : Pos} {I : Addr} (s : Shared) (y : Value) (Q : Unit → Shared → Prop) (Ex : Value → Shared → Prop) (h : Q () s) : wpAny (model prog ω) A (letOwnedTupleGo (.Name x p) (.ref I) y) Q Ex s := by
  have : letOwnedTupleGo (.Name x p) (.ref I) y = pure () := rfl
  rw [this]; exact wpAny_pure h

theorem iter_sound {v : V} {x : Value} {items : List V} {tgt : Expr} {Ex : Value → Shared → Prop} {Q : Value → Shared → Prop} (S : SR prog ω K c w σ s.heap) (hA : AOK A n hd c envs) (hv : VR K w v x) (hi : itersOf hd σ v = some items) (ht : TgtOK v tgt)
    (h : ∀ ob fp St c', Lk prog ω K c w s.heap σ v c' → Itr prog ω K A hd w tgt s.heap.objs.size fp items St → St 0 (s.heap.push ob) → (∀ b ∈ fp, b < s.heap.objs.size ∧ ∃ q, w.g b = some q ∨ c'.lk b = some q) → ob.isFreed = false →
      Q (.ref s.heap.objs.size) { s with heap := s.heap.push ob }) : wpAny (model prog ω) A (pyIter x) Q Ex s := by
  have hgoN : (∀ vs, v ≠ .lst vs) → ∀ (s' : Shared) (x : Value) (Q : Unit → Shared → Prop) (Ex : Value → Shared → Prop), Q () s' → wpAny (model prog ω) A (letOwnedTupleGo tgt (.ref s.heap.objs.size) x) Q Ex s' := by
    intro hne s' x Q Ex hQ
    cases tgt <;> first | exact go_name s' x Q Ex hQ | (exfalso; obtain ⟨vs, e⟩ := ht; exact hne vs e) | (exfalso; exact ht)
  have lists : ∀ (l : Addr) (xs : Array Value) (vs : List V) (c' : Cx), s.heap.IsList l xs → VRs K w vs xs.toList → items = vs → (hd = true → ∃ vs, v = .lst vs) → Lk prog ω K c w s.heap σ v c' → (∃ q, w.g l = some q ∨ c'.lk l = some q) → wpAny (model prog ω) A (pyIter (.ref l)) Q Ex s := by
    intro l xs vs c' hl hvs e hhd lk hkept
    subst e
    have hlt : l < s.heap.objs.size := let ⟨_, e, _⟩ := hl; Heap.lt_size e
    have hne : l ≠ s.heap.objs.size := Nat.ne_of_lt hlt
    refine wpAny_pyIter_list hl (h _ [l] (fun i h => h.IsListIter s.heap.objs.size l i ∧ h.IsList l xs) c' lk ⟨fun i h h' st k => ⟨st.1.at fun o e => k _ (.inl rfl) o e, st.2.at fun o e => k l (.inr (by simp)) o e⟩, fun i h st => let ⟨o, e, _⟩ := st.1; ⟨o, e⟩, ?_, ?_, fun _ _ _ _ st hQ => wpAny_pyIter_listiter st.1 hQ, ?_⟩ ⟨⟨_, Heap.get?_push_size _ rfl, rfl, rfl⟩, let ⟨o, e, r⟩ := hl; ⟨o, Heap.get?_push_of_some _ e, r⟩⟩ (fun b hb => by rw [List.mem_singleton.mp hb]; exact ⟨hlt, hkept⟩) rfl)
    · intro i u s' Q' Ex' hu st hQ
      obtain ⟨y, hy, hvy⟩ := hvs.getArr hu
      refine wpAny_pyNext_list_item st.1 st.2 hy fun h' hit' hs' => ?_
      exact hQ y h' s'.toks hvy ⟨hit', st.2.extBut hs'.extBut hne⟩ fun b o hb e => hs'.extBut b o hb e
    · intro hd0 s' Q' Ex' st hQ
      exact wpAny_pyNext_list_end (hA.handled hd0) st.1 st.2 (by rw [hvs.sizeArr]; simp) fun h' he' => hQ h' s'.toks fun b o hb e => he' b o hb e
    · intro i s' x' Q' Ex' hx' st hQ
      cases tgt with
      | Name y p => exact go_name s' x' Q' Ex' hQ
      | Tuple elts k p =>
        obtain ⟨T, rfl⟩ := hx' (fun _ _ e => by cases e)
        exact wpAny_letOwnedTupleGo_listiter st.1 hQ
      | _ => exact absurd ht (by intro q; exact q)
  cases hv with
  | lst e1 e2 e3 e4 e5 =>
    have this : ∀ vs, itersOf hd σ (.lst vs) = some items → items = vs := by
      intro vs hi
      unfold itersOf at hi
      split at hi
      · cases hi; rfl
      · simp only [itemsOf] at hi; cases hi; rfl
    exact lists _ _ _ c ⟨_, S.kg _ _ e1, e2, _, e3⟩ e4 (this _ hi) (fun _ => ⟨_, rfl⟩) (.off rfl fun _ => rfl) ⟨_, .inl e1⟩
  | @rng a b k r ob e1 e2 =>
    unfold itersOf at hi
    split at hi
    · cases hi
    · rename_i hd0
      have hd0 : hd = false := by simpa using hd0
      simp only [itemsOf] at hi
      split at hi
      · rename_i hc
        cases hi
        obtain ⟨t, u, y, rfl⟩ := e2
        obtain ⟨k0, a1, b1, k1, hlim⟩ := hc
        have hsz : Builtin.Range.rangeSize a b k = (((b - a + k - 1) / k).toNat : Int) := by
          unfold Builtin.Range.rangeSize
          rw [if_pos (by omega)]
          split
          · have e : b - a + k - 1 = (b - a - 1) + 1 * k := by omega
            rw [e, Int.add_mul_ediv_right _ _ (by omega)]
            have : 0 ≤ (b - a - 1) / k := Int.ediv_nonneg (by omega) (by omega)
            omega
          · have : (b - a + k - 1) / k ≤ 0 := by
              have h1 : b - a + k - 1 ≤ k - 1 := by omega
              have h2 : (b - a + k - 1) / k ≤ (k - 1) / k := Int.ediv_le_ediv (by omega) h1
              have h3 : (k - 1) / k = 0 := Int.ediv_eq_zero_of_lt (by omega) (by omega)
              omega
            omega
        have hsmall : Builtin.Range.small a b k = true := by
          unfold Builtin.Range.small
          unfold lim at hlim
          rw [hsz, if_pos (show k > 0 by omega)]
          generalize ((b - a + k - 1) / k).toNat = m at hlim
          have f : ∀ x : Int, -(2 ^ 62) < x → x < 2 ^ 62 → Builtin.Range.rangeFitsLong x = true := fun x h1 h2 => by
            unfold Builtin.Range.rangeFitsLong
            simp only [Bool.and_eq_true, decide_eq_true_eq]
            omega
          have bb : (-(2 ^ 62) < a ∧ a < 2 ^ 62) ∧ (-(2 ^ 62) < b ∧ b < 2 ^ 62) ∧ (-(2 ^ 62) < k ∧ k < 2 ^ 62) ∧ (-(2 ^ 62) < (m : Int) ∧ (m : Int) < 2 ^ 62) ∧ (-(2 ^ 62) < b + (k - 1) ∧ b + (k - 1) < 2 ^ 62) := by omega
          obtain ⟨⟨b1, b2⟩, ⟨b3, b4⟩, ⟨b5, b6⟩, ⟨b7, b8⟩, b9, b10⟩ := bb
          rw [f a b1 b2, f b b3 b4, f k b5 b6, f m b7 b8, f (b + (k - 1)) b9 b10]
          simp
        have hW := Walks.range (prog := prog) (w := ω) (A := A) (hA.handled hd0) s.heap.objs.size a k ((b - a + k - 1) / k).toNat
        refine wpAny_pyIter_range (S.kg _ _ e1) hsmall (h _ [] _ c (.off rfl fun _ => rfl) (walks_itr hW ?_ (fun i u y hu hy => ?_) (fun i h st => ⟨_, st⟩) (fun _ s' y Q' E' _ _ hQ => hgoN (by intro vs e; cases e) s' y Q' E' hQ)) ?_ (fun b hb => by simp at hb) rfl)
        · unfold rngList; simp
        · obtain ⟨t', rfl⟩ := hy
          unfold rngList at hu
          rw [List.getElem?_map, Option.map_eq_some_iff] at hu
          obtain ⟨j, hj, rfl⟩ := hu
          rw [List.getElem?_range (by have := (List.getElem?_eq_some_iff.mp hj).1; simpa using this)] at hj
          cases hj
          rw [show a + k * (i : Int) = a + i * k by rw [Int.mul_comm]]
          exact .int _ _
        · show IsRangeIter _ _ _ _ _
          rw [hsz]
          simpa using Heap.get?_push_size _ rfl
      · cases hi
  | @ref i p hp =>
    unfold itersOf at hi
    split at hi
    · cases hi
    · rename_i hd0
      have hd0 : hd = false := by simpa using hd0
      simp only [itemsOf] at hi
      have hsys : (p.1 == sysModules) = false := by
        have := (S.out _ _ hp).2.2.2.1
        simpa using this
      have hlk : ∀ ob, (c.lockAt p.1 ob).lk p.1 = some ob := fun ob => by show (if p.1 = p.1 then _ else _) = _; rw [if_pos rfl]
      split at hi
      · rename_i lk' vs hg
        cases hi
        obtain ⟨q, hq, rr⟩ := S.obj _ _ hg
        rw [hp] at hq; cases hq
        have rr' := rr
        obtain ⟨e2, xs, k, r1, r2, r3, _⟩ := rr
        exact lists _ _ _ _ ⟨_, r1, rfl, _, rfl⟩ r2 rfl (fun e => by rw [hd0] at e; cases e) (.on hp hg (by intro _ _ q; cases q) r1 rr' e2) ⟨_, .inr (hlk _)⟩
      · cases hi
  | _ =>
    unfold itersOf at hi
    split at hi
    · cases hi
    · simp [itemsOf] at hi
end
end Lw
set_option autoImplicit false
namespace Lw
open PySem PySem.W PySem.Calls PyProof.Rows

section
variable {prog : Program} {ω : World} {K : Frag} {mg mb : Str → Option Value} {P : Prog} {cl : Cl} {n : Nat} {cx : Cxt}
  {hd : Bool} {c c' c₁ c₂ : Cx} {w w' w₁ w₂ : Wd} {ρ ρ' : Rho} {σ σ' : St} {env : Env} {envs : List Env} {A : Around} {s : Shared} {L : Addr} {o o' : Obj} {cs cs' : List (Addr × Obj)} {h h' : Heap} {vis : List (Str × Nat)} {fl : Fl}

theorem SR.setProt {a : Addr} {p p' : Obj} (S : SR prog ω K (c.prot a p) w σ h) (hg : w.g a = none) (hlk : c.lk a = none) (hfr : ∀ q ∈ c.fr, q.1 ≠ a) (k : ∀ b x, b ≠ a → h.get? b = some x → h'.get? b = some x) (ha : h'.get? a = some p') :
    SR prog ω K (c.prot a p') w σ h' where
  kg x ob e := k _ _ (fun q => by rw [q, hg] at e; cases e) (S.kg x ob e)
  kp x ob e := by
    change (if x = a then some p' else c.px x) = some ob at e
    split at e
    · rename_i q; cases e; rw [q]; exact ha
    · rename_i q
      exact k _ _ q (S.kp x ob (by show (if x = a then _ else _) = _; rw [if_neg q]; exact e))
  kl x ob e := k _ _ (fun q => by rw [q] at e; have e' : c.lk a = some ob := e; rw [hlk] at e'; cases e') (S.kl x ob e)
  kf q hq := let ⟨sl, e⟩ := S.kf q hq; ⟨sl, k _ _ (hfr q hq) e⟩
  len := S.len
  used x q := (S.used x q).imp (fun ⟨ob, e⟩ => by
    by_cases z : x = a
    · exact ⟨p', by show (if x = a then _ else _) = _; rw [if_pos z]⟩
    · change (if x = a then some p else c.px x) = some ob at e
      rw [if_neg z] at e
      exact ⟨ob, by show (if x = a then _ else _) = _; rw [if_neg z]; exact e⟩) id
  obj i ob e := by
    obtain ⟨q, x, r⟩ := S.obj i ob e
    obtain ⟨n1, n2⟩ := S.notin_prot i q x
    exact ⟨q, x, (r.cx rfl rfl).mono0 ⟨fun _ _ q => q, List.prefix_refl _⟩ fun b y hb e => k _ _ (fun z => by subst z; rcases hb with z | z; exact n1 z.symm; exact n2 z.symm) e⟩
  out i q e := by
    obtain ⟨x, b, d, f, ⟨o1, e1⟩, ⟨o2, e2⟩, y, z⟩ := S.out i q e
    obtain ⟨n1, n2⟩ := S.notin_prot i q e
    refine ⟨x, b, d, f, ⟨o1, k _ _ n1 e1⟩, ⟨o2, k _ _ n2 e2⟩, ?_, ?_⟩
    · change (if q.1 = a then some p else c.px q.1) = none at y
      show (if q.1 = a then some p' else c.px q.1) = none
      rw [if_neg n1] at y ⊢; exact y
    · change (if q.2 = a then some p else c.px q.2) = none at z
      show (if q.2 = a then some p' else c.px q.2) = none
      rw [if_neg n2] at z ⊢; exact z
  apart := S.apart

theorem frame_prot {a : Addr} {p : Obj} (hn : cs.lookup a = none) : (c.prot a p).frame L o cs = (c.frame L o cs).prot a p := by
  unfold Cx.prot Cx.frame
  congr 1
  funext x
  by_cases q : x = a
  · subst q; rw [hn]; simp
  · simp only [if_neg q]

theorem lookup_none {a : Addr} : cs.lookup a = none ↔ a ∉ keysOfC cs := by
  induction cs with
  | nil => simp [keysOfC]
  | cons p r ih =>
    obtain ⟨x, y⟩ := p
    unfold keysOfC at *
    by_cases q : a = x
    · subst q; simp
    · have : (a == x) = false := by simpa using q
      simp only [List.lookup_cons, this, List.map_cons, List.mem_cons, q, false_or]
      exact ih
theorem keys_none {a : Addr} (hk : keysOfC cs' = keysOfC cs) (h : cs.lookup a = none) : cs'.lookup a = none := by
  rw [lookup_none] at *; rw [hk]; exact h
theorem keys_some {a : Addr} {y : Obj} (hk : keysOfC cs' = keysOfC cs) (h : cs'.lookup a = some y) : ∃ z, cs.lookup a = some z := by
  cases q : cs.lookup a with
  | some z => exact ⟨z, rfl⟩
  | none => rw [keys_none hk q] at h; cases h

theorem Cov_frame {x : Addr} (hk : keysOfC cs' = keysOfC cs) (h : (c.frame L o cs).Cov x) : (c.frame L o' cs').Cov x := by
  rcases h with ⟨y, e⟩ | ⟨q, hq, e⟩
  · refine .inl ?_
    change (match cs.lookup x with | some z => some z | none => c.px x) = some y at e
    show ∃ y, (match cs'.lookup x with | some z => some z | none => c.px x) = some y
    cases q : cs'.lookup x with
    | some z => exact ⟨z, rfl⟩
    | none =>
      rw [keys_none hk.symm q] at e
      exact ⟨y, e⟩
  · rcases List.mem_cons.mp hq with rfl | hq
    · exact .inr ⟨(L, o'), List.mem_cons_self .., e⟩
    · exact .inr ⟨q, List.mem_cons_of_mem _ hq, e⟩

theorem FR.swap (F : FR K (c₁.frame L o cs) w₁ env vis ρ) (M : Frm c₁ w₁ env L o cs) (hw : w₁.Sub w₂) : FR K (c₂.frame L o cs) w₂ env vis ρ where
  kind := F.kind
  glob := F.glob
  bi := F.bi
  ns := by
    obtain ⟨ob, m, a, b, d⟩ := F.ns
    have e : ob = o := by
      rcases a with a | a
      · rcases List.mem_cons.mp a with e | a
        · cases e; rfl
        · exact absurd M.loc (M.fr _ a)
      · rw [M.loc, M.pxL] at a; cases a
    subst e
    exact ⟨ob, m, .inl (by rw [M.loc]; exact List.mem_cons_self ..), b, fun x k v e1 e2 e3 => let ⟨y, p, q⟩ := d x k v e1 e2 e3; ⟨y, p, q.mono0 hw⟩⟩
  cells x k v e1 e2 e3 := by
    obtain ⟨a, ob, y, p, q, r, z⟩ := F.cells x k v e1 e2 e3
    obtain ⟨ob', v', h1, h2⟩ := M.cells x a p
    refine ⟨a, ob, y, p, ?_, r, z.mono0 hw⟩
    change (match cs.lookup a with | some z => some z | none => c₁.px a) = some ob at q
    show (match cs.lookup a with | some z => some z | none => c₂.px a) = some ob
    rw [h1] at q ⊢; exact q

theorem Frm.enter {I : Addr} {p : Obj} (M : Frm c w env L o cs) (hL : L ≠ I) (hc : cs.lookup I = none) : Frm (c.prot I p) (w.mark I) env L o cs :=
  ⟨M.loc, M.frm, M.cells, M.inj, M.ns, .inr M.na, M.g, fun a ob e => by
    obtain ⟨h1, h2, h3, h4, h5, h6⟩ := M.cna a ob e
    refine ⟨.inr h1, h2, h3, ?_, h5, h6⟩
    show (if a = I then _ else _) = _
    rw [if_neg (fun q => by subst q; rw [hc] at e; cases e)]; exact h4, by
    show (if L = I then _ else _) = _
    rw [if_neg hL]; exact M.px, M.lk, M.fr⟩
theorem Frm.exit (M₀ : Frm c w env L o cs) (M' : Frm c₁ w₁ env L o' cs') (hk : keysOfC cs' = keysOfC cs) (hg : w₂.g = w₁.g) (hna : w₂.na = w.na) : Frm c w₂ env L o' cs' :=
  ⟨M'.loc, M'.frm, M'.cells, M'.inj, M'.ns, by rw [hna]; exact M₀.na, by rw [hg]; exact M'.g, fun a ob e => by
    obtain ⟨z, hz⟩ := keys_some hk e
    obtain ⟨h1, h2, h3, h4, h5, h6⟩ := M₀.cna a z hz
    exact ⟨by rw [hna]; exact h1, by rw [hg]; exact (M'.cna a ob e).2.1, h3, h4, h5, h6⟩, M₀.px, M₀.lk, M₀.fr⟩
theorem Frm.setPr {I : Addr} {p p' : Obj} (M : Frm (c.prot I p) w env L o cs) : Frm (c.prot I p') w env L o cs := by
  have pe : ∀ a, (c.prot I p).px a = none → (c.prot I p').px a = none := fun a e => by
    change (if a = I then some p else c.px a) = none at e
    show (if a = I then some p' else c.px a) = none
    split at e
    · cases e
    · rename_i q; rw [if_neg q]; exact e
  exact ⟨M.loc, M.frm, M.cells, M.inj, M.ns, M.na, M.g, fun a ob e => let ⟨h1, h2, h3, h4, h5⟩ := M.cna a ob e; ⟨h1, h2, h3, pe a h4, h5⟩, pe L M.px, M.lk, M.fr⟩

theorem loop_sound {tgt : Expr} {bs : List Stmt} {b : List S} {items : List V} {I : Addr} {fp : List Addr} {St : Nat → Heap → Prop} {f : V → Rho → Lw.St → RS} {asg : V → Rho → Option Rho} {c₀ : Cx} {itv : V} {σ₀ : Lw.St} {h₀ : Heap} {ob : Obj} {R : Result → Shared → Prop} {s₀ : Shared} {w₀ : Wd}
    (hf : ∀ v ρ σ r, f v ρ σ = some r → ∃ ρ₁, asg v ρ = some ρ₁ ∧ execs P cl hd b ρ₁ σ = some r)
    (htgt : ∀ (c : Cx) (w : Wd) (σ : Lw.St) (ρ ρ₁ : Rho) (o : Obj) (cs : List (Addr × Obj)) (s : Shared) (v : V) (x : Value) (Q : Unit → Shared → Prop) (Ex : Value → Shared → Prop), asg v ρ = some ρ₁ → InF prog ω K c w σ ρ env cx.vis L o cs s.heap → VR K w v x → Fits cx c env →
      (∀ o' cs' h' tk, keysOfC cs' = keysOfC cs → InF prog ω K c w σ ρ₁ env cx.vis L o' cs' h' → Q () { s with heap := h', toks := tk }) → wpAny (model prog ω) A (assign tgt env x) Q Ex s)
    (hgo : ∀ (w : Wd) (v : V) (x : Value) (ρ ρ₁ : Rho), asg v ρ = some ρ₁ → VR K w v x → (∀ y p, tgt ≠ .Name y p) → ∃ T, x = .ref T)
    (hb : SimSs prog ω K mg mb P cl n cx b bs) (B : Base K c₀ mg mb) (hn : Fits cx c₀ env) (hA : AOK A n hd (c₀.frame L o cs) (env :: envs))
    (l : Lk prog ω K c₀ w h₀ σ₀ itv c) (it : Itr prog ω K A hd w tgt I fp items St) (hst : St 0 s.heap) (hob : s.heap.get? I = some ob)
    (hkept : ∀ b ∈ fp, ∃ q, w.g b = some q ∨ c.lk b = some q) (hI : h₀.get? I = none) (S₀ : SR prog ω K (c₀.frame L o cs) w σ₀ h₀) (F₀ : FR K (c₀.frame L o cs) w env cx.vis ρ) (M₀ : Frm c₀ w env L o cs)
    (hk0 : ∀ b x, h₀.get? b = some x → s.heap.get? b = some x) (hs₀ : Same s₀ s) (hw₀ : w₀.Le w)
    (hev : loopEnd hd σ₀ itv (loop f items ρ (lockV σ₀ itv)) = some (fl, ρ', σ'))
    (hR : ∀ fw s', QS prog ω K c₀ w₀ env cx.vis L cs s₀ fl ρ' σ' fw s' → R (.ok fw) s') :
    codeAny (model prog ω) A (.forLoop tgt (.ref I) bs [] env) R s := by
  have S1 := (l.frame (L := L) (o := o) (cs := cs)).sr S₀
  have hcsI : cs.lookup I = none := by
    cases q : cs.lookup I with
    | none => rfl
    | some z =>
      have : (c₀.frame L o cs).px I = some z := by show (match cs.lookup I with | some z => some z | none => c₀.px I) = some z; rw [q]
      have := S₀.kp _ _ this
      rw [hI] at this; cases this
  have hLI : L ≠ I := fun e => S₀.fresh_fr hI (L, o) (List.mem_cons_self ..) e
  have hpxI : (c.frame L o cs).px I = none := S1.fresh_px hI
  have hlkI : c.lk I = none := S1.fresh_lk hI
  have hfrI : ∀ q ∈ c.fr, q.1 ≠ I := fun q hq => S1.fresh_fr hI q (List.mem_cons_of_mem _ hq)
  have hgI : w.g I = none := S1.fresh_g hI
  have M1 : Frm c w env L o cs := l.frm S₀ M₀
  have cpxI : c.px I = none := by
    change (match cs.lookup I with | some z => some z | none => c.px I) = none at hpxI
    rw [hcsI] at hpxI; exact hpxI
  have S2 : SR prog ω K ((c.prot I ob).frame L o cs) (w.mark I) (lockV σ₀ itv) s.heap := by
    rw [frame_prot hcsI]; exact S1.guard hI hk0 hob
  have M2 : Frm (c.prot I ob) (w.mark I) env L o cs := M1.enter hLI hcsI
  have F2 : FR K ((c.prot I ob).frame L o cs) (w.mark I) env cx.vis ρ := F₀.swap M₀ Wd.sub_mark
  have ge : ∀ p : Obj, c₀.Ge (c.prot I p) := fun p => by
    have g1 := l.ge
    have g2 : c.Ge (c.prot I p) := Cx.ge_prot cpxI
    exact ⟨fun x y e => g2.px _ _ (g1.px _ _ e), g2.fr.trans g1.fr, g2.cn.trans g1.cn, g2.an.trans g1.an⟩
  have hA2 : ∀ (p o' : Obj) (cs' : List (Addr × Obj)), (∃ m, ObjNs o' m) → AOK A n hd ((c.prot I p).frame L o' cs') (env :: envs) := fun p o' cs' hm =>
    ⟨hA.handled, hA.depth, hA.units, hA.frames, by
      have := hA.frs
      obtain ⟨⟨a, b, _⟩, d⟩ := this
      refine ⟨⟨a, b, let ⟨_, es, ep, e, _⟩ := hm; ⟨es, ep, e⟩⟩, ?_⟩
      show FrsOK envs c.fr
      rw [l.fr]; exact d⟩
  obtain ⟨flr, ρr, σr, hloop, hfl⟩ : ∃ flr ρr σr, loop f items ρ (lockV σ₀ itv) = some (flr, ρr, σr) ∧ loopEnd hd σ₀ itv (some (flr, ρr, σr)) = some (fl, ρ', σ') := by
    cases q : loop f items ρ (lockV σ₀ itv) with
    | none => rw [q] at hev; cases hev
    | some r => obtain ⟨a, b, d⟩ := r; rw [q] at hev; exact ⟨a, b, d, rfl, hev⟩
  have leave : ∀ (w1 : Wd) (o1 p1 : Obj) (cs1 : List (Addr × Obj)) (h1 h2 : Heap) (s1 : Shared) (fw : Flow), keysOfC cs1 = keysOfC cs → (w.mark I).Le w1 → InF prog ω K (c.prot I p1) w1 σr ρr env cx.vis L o1 cs1 h1 → (∀ b x, b ≠ I → h1.get? b = some x → h2.get? b = some x) →
      Same s₀ s1 → s1.heap = h2 → FlR K w1 flr fw → (flr = .next → hd = false) → R (.ok fw) s1 := by
    intro w1 o1 p1 cs1 h1 h2 s1 fw hk1 hw1 I1 hkeep hs1 hh2 hfr1 hnx
    subst hh2
    have hcs1 := keys_none hk1 hcsI
    have hg1 : w1.g I = none := hw1.unfrozen hgI
    have Sx : SR prog ω K (c.frame L o1 cs1) (w1.unmark w.na) σr s1.heap := by
      have S3 := I1.S
      rw [frame_prot hcs1] at S3
      have hout := S3.notin_prot
      have Sy := S3.unprotect (f := w.na) (.inl (by show (match cs1.lookup I with | some z => some z | none => c.px I) = none; rw [hcs1]; exact cpxI)) (fun x q => Cov_frame hk1 (S1.used x q))
      refine ⟨fun x y e => hkeep _ _ (fun q => by rw [q] at e; have e' : w1.g I = some y := e; rw [hg1] at e'; cases e') (Sy.kg x y e), fun x y e => hkeep _ _ (fun q => ?_) (Sy.kp x y e), fun x y e => hkeep _ _ (fun q => by rw [q] at e; have e' : c.lk I = some y := e; rw [hlkI] at e'; cases e') (Sy.kl x y e), fun q hq => ?_, Sy.len, Sy.used, fun i y e => ?_, fun i y e => ?_, Sy.apart⟩
      · rw [q] at e
        change (match cs1.lookup I with | some z => some z | none => c.px I) = some y at e
        rw [hcs1, cpxI] at e; cases e
      · obtain ⟨sl, e⟩ := Sy.kf q hq
        refine ⟨sl, hkeep _ _ ?_ e⟩
        rcases List.mem_cons.mp hq with rfl | hq
        · exact hLI
        · exact hfrI q hq
      · obtain ⟨p, hp, r⟩ := Sy.obj i y e
        obtain ⟨n1, n2⟩ := hout i p hp
        exact ⟨p, hp, r.mono0 ⟨fun _ _ q => q, List.prefix_refl _⟩ fun b x hb e => hkeep _ _ (fun z => by subst z; rcases hb with z | z; exact n1 z.symm; exact n2 z.symm) e⟩
      · obtain ⟨a1, a2, a3, a4, ⟨o2, e2⟩, ⟨o3, e3⟩, a5⟩ := Sy.out i y e
        obtain ⟨n1, n2⟩ := hout i y e
        exact ⟨a1, a2, a3, a4, ⟨o2, hkeep _ _ n1 e2⟩, ⟨o3, hkeep _ _ n2 e3⟩, a5⟩
    have le : w.Le (w1.unmark w.na) := hw1.back
    have Sz := (l.frame (L := L) (o := o1) (cs := cs1)).unlock le Sx
    have Mz : Frm c₀ (w1.unmark w.na) env L o1 cs1 := M₀.exit I1.M hk1 rfl rfl
    have Fz : FR K (c₀.frame L o1 cs1) (w1.unmark w.na) env cx.vis ρr := I1.F.swap I1.M Wd.sub_unmark
    refine hR fw s1 ⟨hs1, w1.unmark w.na, o1, cs1, hk1, hw₀.trans le, ?_, ?_⟩
    · cases flr with
      | next =>
        rw [hnx rfl] at hfl
        simp only [loopEnd, Bool.false_eq_true, if_false, Option.some.injEq, Prod.mk.injEq] at hfl
        obtain ⟨_, rfl, rfl⟩ := hfl
        exact ⟨Sz, Fz, Mz⟩
      | ret v =>
        simp only [loopEnd, Option.some.injEq, Prod.mk.injEq] at hfl
        obtain ⟨_, rfl, rfl⟩ := hfl
        exact ⟨Sz, Fz, Mz⟩
      | exc x => simp [loopEnd] at hfl
    · cases hfr1 with
      | next =>
        rw [hnx rfl] at hfl
        simp only [loopEnd, Bool.false_eq_true, if_false, Option.some.injEq, Prod.mk.injEq] at hfl
        obtain ⟨rfl, _, _⟩ := hfl
        exact .next
      | ret hv =>
        simp only [loopEnd, Option.some.injEq, Prod.mk.injEq] at hfl
        obtain ⟨rfl, _, _⟩ := hfl
        exact .ret (hv.mono0 Wd.sub_unmark)
  have stays : ∀ (i : Nat) (p : Obj) (w1 w2 : Wd) (σ1 σ2 : Lw.St) (ρ1 ρ2 : Rho) (o1 o2 : Obj) (cs1 cs2 : List (Addr × Obj)) (h1 h2 : Heap), keysOfC cs1 = keysOfC cs → keysOfC cs2 = keysOfC cs → (w.mark I).Le w1 → (w.mark I).Le w2 →
      InF prog ω K (c.prot I p) w1 σ1 ρ1 env cx.vis L o1 cs1 h1 → InF prog ω K (c.prot I p) w2 σ2 ρ2 env cx.vis L o2 cs2 h2 → St i h1 → St i h2 := by
    intro i p w1 w2 σ1 σ2 ρ1 ρ2 o1 o2 cs1 cs2 h1 h2 k1 k2 l1 l2 I1 I2 st
    refine it.frame i h1 h2 st fun b hb y e => ?_
    have pI : ∀ (o3 : Obj) (cs3 : List (Addr × Obj)), keysOfC cs3 = keysOfC cs → ((c.prot I p).frame L o3 cs3).px I = some p := fun o3 cs3 hk3 => by
      show (match cs3.lookup I with | some z => some z | none => (c.prot I p).px I) = some p
      rw [keys_none hk3 hcsI]; exact Cx.prot_get
    rcases hb with rfl | hb
    · rw [I1.S.kp _ _ (pI o1 cs1 k1)] at e; cases e
      exact I2.S.kp _ _ (pI o2 cs2 k2)
    · obtain ⟨q, hq⟩ := hkept b hb
      rcases hq with hq | hq
      · rw [I1.S.kg _ _ (l1.g _ _ hq)] at e; cases e
        exact I2.S.kg _ _ (l2.g _ _ hq)
      · rw [I1.S.kl _ _ hq] at e; cases e
        exact I2.S.kl _ _ hq
  refine codeAny_forLoop_any (fun m s1 => ∃ i w1 o1 cs1 p1 ρ1 σ1, m = items.length + 1 - i ∧ i ≤ items.length ∧ Same s₀ s1 ∧ keysOfC cs1 = keysOfC cs ∧ (w.mark I).Le w1 ∧ InF prog ω K (c.prot I p1) w1 σ1 ρ1 env cx.vis L o1 cs1 s1.heap ∧ St i s1.heap ∧
    loop f (items.drop i) ρ1 σ1 = some (flr, ρr, σr)) ?_ (items.length + 1) ⟨0, w.mark I, o, cs, ob, ρ, lockV σ₀ itv, rfl, Nat.zero_le _, hs₀, rfl, .refl _, ⟨S2, F2, M2⟩, hst, by simpa using hloop⟩
  rintro m s1 ⟨i, w1, o1, cs1, p1, ρ1, σ1, rfl, hi, hs1, hk1, hw1, I1, st1, hl1⟩
  have hcs1 := keys_none hk1 hcsI
  have hg1 : w1.g I = none := hw1.unfrozen hgI
  cases hv : items[i]? with
  | none =>
    have hie : i = items.length := Nat.le_antisymm hi (by simpa using hv)
    subst hie
    simp only [List.drop_length, loop, Option.some.injEq, Prod.mk.injEq] at hl1
    obtain ⟨rfl, rfl, rfl⟩ := hl1
    have hd0 : hd = false := by
      cases hd with
      | false => rfl
      | true => simp [loopEnd] at hfl
    refine it.done hd0 s1 _ _ st1 fun h2 tk2 k2 => wpAny_execs_nil ?_
    exact leave w1 o1 p1 cs1 s1.heap h2 _ .next hk1 hw1 I1 k2 (hs1.trans (.of _ _ _)) rfl .next fun _ => hd0
  | some v =>
    have hlt : i < items.length := (List.getElem?_eq_some_iff.mp hv).1
    have hdrop : items.drop i = v :: items.drop (i + 1) := by
      rw [List.drop_eq_getElem_cons hlt]
      have := (List.getElem?_eq_some_iff.mp hv).2
      rw [this]
    rw [hdrop, loop] at hl1
    refine it.item i v s1 _ _ hv st1 fun x h2 tk2 hx st2 k2 => ?_
    obtain ⟨p2, hp2⟩ := it.at_ _ _ st2
    have I2 : InF prog ω K (c.prot I p2) w1 σ1 ρ1 env cx.vis L o1 cs1 h2 := by
      refine ⟨?_, I1.F.swap I1.M ⟨fun _ _ q => q, List.prefix_refl _⟩, I1.M.setPr⟩
      rw [frame_prot hcs1]
      have S3 := I1.S
      rw [frame_prot hcs1] at S3
      refine S3.setProt hg1 hlkI (fun q hq => ?_) k2 hp2
      rcases List.mem_cons.mp hq with rfl | hq
      · exact hLI
      · exact hfrI q hq
    cases hfv : f v ρ1 σ1 with
    | none => rw [hfv] at hl1; cases hl1
    | some r =>
      obtain ⟨fl2, ρ2, σ2⟩ := r
      rw [hfv] at hl1
      obtain ⟨ρa, ha, hex⟩ := hf v ρ1 σ1 _ hfv
      have hx1 : VR K w1 v x := (hx.mono0 Wd.sub_mark).mono0 ⟨hw1.g, hw1.φ⟩
      refine it.go (i + 1) { s1 with heap := h2, toks := tk2 } x _ _ (hgo w1 v x ρ1 ρa ha hx1) st2 ?_
      refine htgt _ w1 σ1 ρ1 ρa o1 cs1 { s1 with heap := h2, toks := tk2 } v x _ _ ha I2 hx1 (hn.ge (ge p2)) fun o3 cs3 h3 tk3 hk3 I3 => ?_
      have hk3' := hk3.trans hk1
      have st3 := stays (i + 1) p2 w1 w1 _ _ _ _ _ _ _ _ h2 h3 hk1 hk3' hw1 hw1 I2 I3 st2
      refine wpAny_mono (hb hd _ w1 ρa σ1 env envs A { s1 with heap := h3, toks := tk3 } L o3 cs3 fl2 ρ2 σ2 hex (B.ge (ge p2)) I3 (hn.ge (ge p2)) (hA2 p2 o3 cs3 I3.M.ns)) (fun fw s4 q => ?_) fun e s4 q => ?_
      · obtain ⟨hs4, w4, o4, cs4, hk4, hw4, I4, hfl4⟩ := q
        have hk4' := hk4.trans hk3'
        have hw4' := hw1.trans hw4
        have hs4' : Same s₀ s4 := (hs1.trans (.of _ _ _)).trans hs4
        have st4 := stays (i + 1) p2 w1 w4 _ _ _ _ _ _ _ _ h3 s4.heap hk3' hk4' hw1 hw4' I3 I4 st3
        cases hfl4 with
        | next => exact ⟨items.length + 1 - (i + 1), by omega, i + 1, w4, o4, cs4, p2, ρ2, σ2, rfl, hlt, hs4', hk4', hw4', I4, st4, hl1⟩
        | ret hv4 =>
          simp only [Option.some.injEq, Prod.mk.injEq] at hl1
          obtain ⟨rfl, rfl, rfl⟩ := hl1
          exact leave w4 o4 p2 cs4 s4.heap s4.heap s4 _ hk4' hw4' I4 (fun _ _ _ e => e) hs4' rfl (.ret hv4) fun e => by cases e
      · obtain ⟨y, _, _, _, q, _⟩ := q
        subst q
        cases hl1
end
end Lw
set_option autoImplicit false
namespace Lw
open PySem PySem.W PySem.Calls PyProof.Rows

section
variable {prog : Program} {ω : World} {K : Frag} {mg mb : Str → Option Value} {P : Prog} {cl : Cl} {n : Nat} {cx : Cxt}
  {hd : Bool} {c c' c₁ c₂ : Cx} {w w' w₁ w₂ : Wd} {ρ ρ' : Rho} {σ σ' : St} {env : Env} {envs : List Env} {A : Around} {s : Shared} {L : Addr} {o o' : Obj} {cs cs' : List (Addr × Obj)} {h h' : Heap} {vis : List (Str × Nat)} {fl : Fl}

theorem Lk.unframe {v : V} {c'' : Cx} (l : Lk prog ω K (c.frame L o cs) w h σ v c'') : ∃ c', c'' = c'.frame L o cs ∧ Lk prog ω K c w h σ v c' := by
  cases l with
  | @on i p q ob a b d e f g => exact ⟨c.lockAt p.1 ob, rfl, .on a b d e (f.cx rfl rfl) g⟩
  | off a b => exact ⟨c, rfl, .off a b⟩

theorem folded_plain {e : Expr} (h : notSetE e = true) (x : Value) : foldedSetIterable e env x = pure x := by
  cases e <;> first | rfl | (exact (Bool.false_ne_true h).elim)

theorem sim_for1 {k : Nat} {it : E} {b : List S} {x : Str} {p pos : Pos} {ie : Expr} {bs : List Stmt} (hvis : VisOK cx.vis) (hx : cx.vis.lookup x = some k) (hl : cx.scope.names.lookup x = some .local) (hset : notSetE ie = true)
    (hi : Sim prog ω K mg mb P cl n cx it ie) (hb : SimSs prog ω K mg mb P cl n cx b bs) : SimS prog ω K mg mb P cl n cx (.for1 k it b) (.For (.Name x p) ie bs [] pos) := by
  intro hd c w ρ σ env envs A s L o cs fl ρ' σ' hev B I hn hA
  rw [x_for1e] at hev
  refine wpAny_For (hi.v.bindS hev B I hn hA (.refl _) (.refl _) fun y yv σ₁ w₁ s₁ hk hs hw _ I₁ hy => ?_) (folded_plain hset)
  split at hk
  · rename_i items hitems
    refine iter_sound (tgt := .Name x p) I₁.S hA hy hitems trivial fun ob fp St c'' l itr st0 hkept hfr => ?_
    obtain ⟨c', rfl, l'⟩ := l.unframe
    have hob : (s₁.heap.push ob).get? s₁.heap.objs.size = some ob := Heap.get?_push_size _ hfr
    refine loop_sound (s := { s₁ with heap := s₁.heap.push ob }) (asg := fun v ρ => some (upd ρ k v)) (fun v ρ σ r h => ⟨_, rfl, h⟩) (fun c w σ ρ ρ₁ o cs s v x' Q Ex ha I hv hn' hQ => ?_) (fun w v x' ρ ρ₁ _ _ hne => absurd rfl (hne x p))
      hb B hn hA l' itr st0 hob (fun b hb => let ⟨_, q, h⟩ := hkept b hb; ⟨q, h⟩) (get_size _) I₁.S I₁.F I₁.M (push_keeps _ _) (hs.trans (.ofH _ _)) hw hk fun fw s' q => q
    cases ha
    exact wpAny_assign_Name (store_local I hvis hx (by rw [hn'.names]; exact hl) hv fun o' h' tk I' => hQ o' cs h' tk rfl I')
  · cases hk

end
end Lw
set_option autoImplicit false
namespace Lw
open PySem PySem.W PySem.Calls PyProof.Rows

noncomputable def Cx.pr (c : Cx) (l : List (Addr × Obj)) : Cx := { c with px := fun x => match l.lookup x with | some ob => some ob | none => c.px x }
noncomputable def Wd.marks (w : Wd) (l : List Addr) : Wd := { w with na := fun x => x ∈ l ∨ w.na x }

section
variable {prog : Program} {ω : World} {K : Frag} {mg mb : Str → Option Value} {P : Prog} {cl : Cl} {n : Nat} {cx : Cxt}
  {hd : Bool} {c c' c₁ c₂ : Cx} {w w' w₁ w₂ : Wd} {ρ ρ' : Rho} {σ σ' : St} {env : Env} {envs : List Env} {A : Around} {s : Shared} {h h' : Heap} {l : List (Addr × Obj)}

theorem Wd.sub_marks {k : List Addr} : w.Sub (w.marks k) := ⟨fun _ _ e => e, List.prefix_refl _⟩
theorem Wd.Le.backs {k : List Addr} (h : (w.marks k).Le w') : w.Le (w'.unmark w.na) := ⟨h.g, h.φ, rfl, fun x o q e => h.old x o (.inr q) e⟩
theorem Wd.Le.unfrozens {k : List Addr} {a : Addr} (h : (w.marks k).Le w') (ha : a ∈ k) (e : w.g a = none) : w'.g a = none := by
  cases q : w'.g a with
  | none => rfl
  | some o => have := h.old a o (.inl ha) q; rw [show (w.marks k).g a = w.g a from rfl, e] at this; cases this

theorem pr_some {a : Addr} {ob : Obj} (e : l.lookup a = some ob) : (c.pr l).px a = some ob := by
  show (match l.lookup a with | some z => some z | none => c.px a) = _; rw [e]
theorem pr_none {a : Addr} (e : l.lookup a = none) : (c.pr l).px a = c.px a := by
  show (match l.lookup a with | some z => some z | none => c.px a) = _; rw [e]
theorem mem_keys {a : Addr} {ob : Obj} (e : l.lookup a = some ob) : a ∈ keysOfC l := by
  by_cases q : a ∈ keysOfC l
  · exact q
  · rw [lookup_none.mpr q] at e; cases e
theorem keys_look {a : Addr} (e : a ∈ keysOfC l) : ∃ ob, l.lookup a = some ob := by
  cases q : l.lookup a with
  | some ob => exact ⟨ob, rfl⟩
  | none => exact absurd e (lookup_none.mp q)
theorem Cx.ge_pr (hn : ∀ a ∈ keysOfC l, c.px a = none) : c.Ge (c.pr l) := by
  refine ⟨fun x ob e => ?_, rfl, rfl, rfl⟩
  cases q : l.lookup x with
  | none => rw [pr_none q]; exact e
  | some z =>
    rw [hn x (mem_keys q)] at e
    cases e

theorem SR.prEnter (S : SR prog ω K c w σ h) (hn : ∀ a ∈ keysOfC l, h.get? a = none) (k : ∀ b x, h.get? b = some x → h'.get? b = some x) (hl : ∀ a ob, l.lookup a = some ob → h'.get? a = some ob) : SR prog ω K (c.pr l) (w.marks (keysOfC l)) σ h' where
  kg x o e := k _ _ (S.kg x o e)
  kp x ob e := by
    cases q : l.lookup x with
    | some z => rw [pr_some q] at e; cases e; exact hl _ _ q
    | none => rw [pr_none q] at e; exact k _ _ (S.kp x ob e)
  kl x o e := k _ _ (S.kl x o e)
  kf q hq := let ⟨sl, e⟩ := S.kf q hq; ⟨sl, k _ _ e⟩
  len := S.len
  used x q := by
    rcases q with q | q
    · obtain ⟨ob, e⟩ := keys_look q
      exact .inl ⟨ob, pr_some e⟩
    · rcases S.used x q with ⟨ob, e⟩ | e
      · cases z : l.lookup x with
        | some y => exact .inl ⟨y, pr_some z⟩
        | none => exact .inl ⟨ob, by rw [pr_none z]; exact e⟩
      · exact .inr e
  obj i o e := let ⟨p, x, r⟩ := S.obj i o e; ⟨p, x, (r.cx rfl rfl).mono0 Wd.sub_marks fun _ _ _ q => k _ _ q⟩
  out i p e := by
    obtain ⟨a, b, d, f, ⟨o1, e1⟩, ⟨o2, e2⟩, y, z⟩ := S.out i p e
    refine ⟨a, b, d, f, ⟨o1, k _ _ e1⟩, ⟨o2, k _ _ e2⟩, ?_, ?_⟩
    · cases q : l.lookup p.1 with
      | some ob => rw [hn _ (mem_keys q)] at e1; cases e1
      | none => rw [pr_none q]; exact y
    · cases q : l.lookup p.2 with
      | some ob => rw [hn _ (mem_keys q)] at e2; cases e2
      | none => rw [pr_none q]; exact z
  apart := S.apart

theorem SR.prNot {a : Addr} {ob : Obj} (S : SR prog ω K (c.pr l) w σ h) (ha : l.lookup a = some ob) : ∀ (i : Nat) (p : Addr × Addr), w.φ[i]? = some p → p.1 ≠ a ∧ p.2 ≠ a := fun i p e => by
  obtain ⟨_, _, _, _, _, _, y, z⟩ := S.out i p e
  refine ⟨fun q => ?_, fun q => ?_⟩
  · rw [q, pr_some ha] at y; cases y
  · rw [q, pr_some ha] at z; cases z

theorem SR.prSet {a : Addr} {ob ob' : Obj} (S : SR prog ω K (c.pr l) w σ h) (ha : l.lookup a = some ob) (hg : w.g a = none) (hlk : c.lk a = none) (hfr : ∀ q ∈ c.fr, q.1 ≠ a) (k : ∀ b x, b ≠ a → h.get? b = some x → h'.get? b = some x) (hx : h'.get? a = some ob') :
    SR prog ω K (c.pr (setCs l a ob')) w σ h' where
  kg x o e := k _ _ (fun q => by rw [q, hg] at e; cases e) (S.kg x o e)
  kp x y e := by
    change (match (setCs l a ob').lookup x with | some z => some z | none => c.px x) = some y at e
    rw [setCs_lookup] at e
    by_cases q : x = a
    · subst q
      rw [if_pos rfl, ha] at e
      simp at e; rw [← e]; exact hx
    · rw [if_neg q] at e
      exact k _ _ q (S.kp x y e)
  kl x o e := k _ _ (fun q => by rw [q] at e; have e' : c.lk a = some o := e; rw [hlk] at e'; cases e') (S.kl x o e)
  kf q hq := let ⟨sl, e⟩ := S.kf q hq; ⟨sl, k _ _ (hfr q hq) e⟩
  len := S.len
  used x q := by
    rcases S.used x q with ⟨y, e⟩ | e
    · refine .inl ?_
      change ∃ z, (match (setCs l a ob').lookup x with | some z => some z | none => c.px x) = some z
      rw [setCs_lookup]
      by_cases q : x = a
      · rw [if_pos q, ha]; exact ⟨ob', rfl⟩
      · rw [if_neg q]; exact ⟨y, e⟩
    · exact .inr e
  obj i o e := by
    obtain ⟨p, x, r⟩ := S.obj i o e
    obtain ⟨n1, n2⟩ := S.prNot ha i p x
    exact ⟨p, x, (r.cx rfl rfl).mono0 ⟨fun _ _ q => q, List.prefix_refl _⟩ fun b y hb e => k _ _ (fun z => by subst z; rcases hb with z | z; exact n1 z.symm; exact n2 z.symm) e⟩
  out i p e := by
    obtain ⟨x, b, d, f, ⟨o1, e1⟩, ⟨o2, e2⟩, y, z⟩ := S.out i p e
    obtain ⟨n1, n2⟩ := S.prNot ha i p e
    refine ⟨x, b, d, f, ⟨o1, k _ _ n1 e1⟩, ⟨o2, k _ _ n2 e2⟩, ?_, ?_⟩
    · show (match (setCs l a ob').lookup p.1 with | some z => some z | none => c.px p.1) = none
      rw [setCs_lookup, if_neg n1]; exact y
    · show (match (setCs l a ob').lookup p.2 with | some z => some z | none => c.px p.2) = none
      rw [setCs_lookup, if_neg n2]; exact z
  apart := S.apart

theorem SR.prLeave {f : Addr → Prop} (S : SR prog ω K (c.pr l) w₁ σ h) (hk : ∀ a ∈ keysOfC l, c.px a = none ∧ w₁.g a = none ∧ c.lk a = none ∧ ∀ q ∈ c.fr, q.1 ≠ a) (hu : ∀ x, f x → c.Cov x)
    (k : ∀ b x, b ∉ keysOfC l → h.get? b = some x → h'.get? b = some x) : SR prog ω K c (w₁.unmark f) σ h' ∧ ∀ a ∈ keysOfC l, ∀ (i : Nat) (p : Addr × Addr), w₁.φ[i]? = some p → p.1 ≠ a ∧ p.2 ≠ a := by
  have no : ∀ a ∈ keysOfC l, ∀ (i : Nat) (p : Addr × Addr), w₁.φ[i]? = some p → p.1 ≠ a ∧ p.2 ≠ a := fun a ha i p e => by
    obtain ⟨ob, hob⟩ := keys_look ha
    exact S.prNot hob i p e
  refine ⟨⟨fun x o e => k _ _ (fun q => ?_) (S.kg x o e), fun x o e => ?_, fun x o e => k _ _ (fun q => ?_) (S.kl x o e), fun q hq => ?_, S.len, hu, fun i o e => ?_, fun i p e => ?_, S.apart⟩, no⟩
  · have e' : w₁.g x = some o := e
    rw [(hk x q).2.1] at e'; cases e'
  · have q : x ∉ keysOfC l := fun q => by rw [(hk x q).1] at e; cases e
    exact k _ _ q (S.kp x o (by rw [pr_none (lookup_none.mpr q)]; exact e))
  · have e' : c.lk x = some o := e
    rw [(hk x q).2.2.1] at e'; cases e'
  · obtain ⟨sl, e⟩ := S.kf q hq
    exact ⟨sl, k _ _ (fun z => (hk q.1 z).2.2.2 q hq rfl) e⟩
  · obtain ⟨p, x, r⟩ := S.obj i o e
    exact ⟨p, x, (r.cx rfl rfl).mono0 Wd.sub_unmark fun b y hb e => k _ _ (fun z => by rcases hb with q | q; exact (no b z i p x).1 q.symm; exact (no b z i p x).2 q.symm) e⟩
  · obtain ⟨x, b, d, f', ⟨o1, e1⟩, ⟨o2, e2⟩, y, z⟩ := S.out i p e
    have q1 : p.1 ∉ keysOfC l := fun q => (no p.1 q i p e).1 rfl
    have q2 : p.2 ∉ keysOfC l := fun q => (no p.2 q i p e).2 rfl
    rw [pr_none (lookup_none.mpr q1)] at y
    rw [pr_none (lookup_none.mpr q2)] at z
    exact ⟨x, b, d, f', ⟨o1, k _ _ q1 e1⟩, ⟨o2, k _ _ q2 e2⟩, y, z⟩

theorem mkL_own {mt : Bool} {vs : List V} {out : Array Value} {r : Res V} {D : Addr} {e : Nat} (S : SR prog ω K c w σ h) (hv : VRs K w vs out.toList) (hl : vs.length ≤ lim) (hm : mkL mt vs σ = some (r, σ'))
    (hg : w.g D = none) (hpx : c.px D = none) (hlk : c.lk D = none) (hfr : ∀ q ∈ c.fr, q.1 ≠ D) (hφ : ∀ (i : Nat) (p : Addr × Addr), w.φ[i]? = some p → p.1 ≠ D ∧ p.2 ≠ D) (hna : ¬ w.na D)
    (hsys : D ≠ sysModules) (hD : h.get? D = some ⟨.type "list", none, .seq out e, #[]⟩) : ∃ w' a, r = .ok a ∧ w.Le w' ∧ SR prog ω K c w' σ' h ∧ VR K w' a (.ref D) := by
  unfold mkL at hm
  split at hm
  · simp only [Option.some.injEq, Prod.mk.injEq] at hm
    obtain ⟨rfl, rfl⟩ := hm
    refine ⟨_, _, rfl, Wd.le_more, S.adopt hg hpx hlk hfr hφ (fun _ _ _ e => e) hsys ⟨_, hD⟩ ⟨rfl, out, e, hD, hv.mono Wd.le_more, hl, hlk⟩, ?_⟩
    have := @VR.ref K (w.more (D, D)) σ.n (D, D) (by rw [S.len]; exact Wd.more_get)
    exact this
  · simp only [Option.some.injEq, Prod.mk.injEq] at hm
    obtain ⟨rfl, rfl⟩ := hm
    obtain ⟨le, S'⟩ := S.adoptG hφ hg hna hD
    exact ⟨_, _, rfl, le, S', .lst Wd.add_get rfl rfl (hv.mono le) hl⟩

noncomputable def clOf (cells : List (Str × Addr)) : List (Str × NameKind) → List (Str × Addr) → List (Str × Addr)
  | [], acc => acc
  | (x, k) :: r, acc => if k == .free then clOf cells r ((x, (cells.lookup x).getD 0) :: acc) else clOf cells r acc
theorem clOf_lookup {cells : List (Str × Addr)} {y : Str} : ∀ (names : List (Str × NameKind)) (acc : List (Str × Addr)), (∀ a, acc.lookup y = some a → cells.lookup y = some a) → (∀ x ∈ names, x.2 = .free → (cells.lookup x.1).isSome = true) →
    (∀ a, (clOf cells names acc).lookup y = some a → cells.lookup y = some a) ∧ (((acc.lookup y).isSome = true ∨ (y, NameKind.free) ∈ names) → ((clOf cells names acc).lookup y).isSome = true)
  | [], acc, h, _ => ⟨h, fun q => by rcases q with q | q; exact q; simp at q⟩
  | (x, k) :: r, acc, h, hn => by
    have hr : ∀ x ∈ r, x.2 = .free → (cells.lookup x.1).isSome = true := fun z hz => hn z (List.mem_cons_of_mem _ hz)
    unfold clOf
    by_cases hk : (k == NameKind.free) = true
    · rw [if_pos hk]
      have hk' : k = .free := by simpa using hk
      have hs := hn (x, k) (List.mem_cons_self ..) hk'
      obtain ⟨a, ha⟩ := Option.isSome_iff_exists.mp hs
      obtain ⟨i1, i2⟩ := clOf_lookup (cells := cells) (y := y) r ((x, (cells.lookup x).getD 0) :: acc) (fun b hb => by
        by_cases q : y = x
        · subst q
          simp at hb
          have ha' : cells.lookup y = some a := ha
          rw [ha'] at hb ⊢; simp at hb; rw [hb]
        · have : (y == x) = false := by simpa using q
          rw [List.lookup_cons, this] at hb
          exact h b hb) hr
      refine ⟨i1, fun q => i2 ?_⟩
      by_cases z : y = x
      · subst z; exact .inl (by simp)
      · have : (y == x) = false := by simpa using z
        rcases q with q | q
        · exact .inl (by rw [List.lookup_cons, this]; exact q)
        · rcases List.mem_cons.mp q with e | q
          · cases e; exact absurd rfl z
          · exact .inr q
    · rw [if_neg hk]
      obtain ⟨i1, i2⟩ := clOf_lookup (cells := cells) (y := y) r acc h hr
      refine ⟨i1, fun q => i2 ?_⟩
      rcases q with q | q
      · exact .inl q
      · rcases List.mem_cons.mp q with e | q
        · cases e; simp at hk
        · exact .inr q

theorem closureFor_is {scope : Scope} (hn : ∀ x ∈ scope.names, x.2 = .free → (env.cells.lookup x.1).isSome = true) : closureFor scope env = pure (clOf env.cells scope.names []) := by
  have key : ∀ (names : List (Str × NameKind)) (acc : List (Str × Addr)), (∀ x ∈ names, x.2 = .free → (env.cells.lookup x.1).isSome = true) →
      forIn names acc (fun x cs => match x with | (name, kind) => if (kind == NameKind.free) = true then do let a ← cellOf env name; pure (ForInStep.yield ((name, a) :: cs)) else pure (ForInStep.yield cs)) = (pure (clOf env.cells names acc) : Sem (List (Str × Addr))) := by
    intro names
    induction names with
    | nil => intro acc _; rfl
    | cons z r ih =>
      obtain ⟨x, k⟩ := z
      intro acc hn
      have hr : ∀ x ∈ r, x.2 = .free → (env.cells.lookup x.1).isSome = true := fun z hz => hn z (List.mem_cons_of_mem _ hz)
      rw [List.forIn_cons]
      unfold clOf
      by_cases hk : (k == NameKind.free) = true
      · simp only [if_pos hk]
        have hk' : k = .free := by simpa using hk
        obtain ⟨a, ha⟩ := Option.isSome_iff_exists.mp (hn (x, k) (List.mem_cons_self ..) hk')
        have ha' : env.cells.lookup x = some a := ha
        have e : cellOf env x = pure a := by unfold cellOf; rw [ha']
        rw [e, ha']
        exact ih _ hr
      · simp only [if_neg hk]
        exact ih _ hr
  have := key scope.names [] hn
  unfold closureFor
  simp only [bind_pure_comp] at this ⊢
  rw [this]; rfl

theorem relabel_is {scope : Scope} (hn : Fits cx c env) (hk : env.scope.kind = .function) (hall : ∀ x ∈ scope.names, x.2 = .free → cx.scope.names.lookup x.1 = some .cell) : relabel scope env = compScope scope := by
  unfold relabel compScope
  congr 1
  refine List.map_congr_left fun x hx => ?_
  obtain ⟨y, k⟩ := x
  by_cases q : (k == NameKind.free) = true
  · have q' : k = .free := by simpa using q
    have e := hall (y, k) hx q'
    have e2 : env.kindOf y = some .cell := by show env.scope.names.lookup y = _; rw [hn.names]; exact e
    simp only [q, hk, e2, beq_self_eq_true, Bool.and_self, Bool.true_and]
  · simp only [q, Bool.false_and]

theorem lookup_comp {names : List (Str × NameKind)} {y : Str} : (names.map fun (n, k) => if k == .free then (n, .cell) else (n, k)).lookup y = (names.lookup y).map fun k => if k == .free then .cell else k := by
  induction names with
  | nil => rfl
  | cons z r ih =>
    obtain ⟨x, k⟩ := z
    by_cases q : y = x
    · subst q
      by_cases hk : (k == NameKind.free) = true
      · simp only [List.map_cons, if_pos hk, List.lookup_cons, beq_self_eq_true, Option.map_some]
      · simp only [List.map_cons, if_neg hk, List.lookup_cons, beq_self_eq_true, Option.map_some]
    · have : (y == x) = false := by simpa using q
      by_cases hk : (k == NameKind.free) = true
      · simp only [List.map_cons, if_pos hk, List.lookup_cons, this]; exact ih
      · simp only [List.map_cons, if_neg hk, List.lookup_cons, this]; exact ih

theorem lookup_filter {vis : List (Str × Nat)} {f : Str → Bool} {y : Str} : (vis.filter fun p => f p.1).lookup y = if f y then vis.lookup y else none := by
  induction vis with
  | nil => simp
  | cons z r ih =>
    obtain ⟨x, k⟩ := z
    by_cases q : y = x
    · subst q
      by_cases hf : f y = true
      · simp [List.filter_cons, hf]
      · simp only [List.filter_cons, hf, if_false, Bool.false_eq_true] at ih ⊢; exact ih
    · have : (y == x) = false := by simpa using q
      by_cases hf : f x = true
      · simp only [List.filter_cons, hf, if_true, List.lookup_cons, this]; exact ih
      · simp only [List.filter_cons, hf, Bool.false_eq_true, if_false, List.lookup_cons, this]; exact ih

structure CompOK (cx : Cxt) (scope : Scope) (x : Str) (k : Nat) : Prop where
  kind : scope.kind = .function
  x : scope.names.lookup x = some .local
  new : ∀ p ∈ cx.vis, p.2 ≠ k
  free : ∀ z ∈ scope.names, z.2 = .free → cx.scope.names.lookup z.1 = some .cell
  nocell : ∀ z ∈ scope.names, z.2 ≠ .cell
  names : ∀ z ∈ scope.names, z.2 = .local → scope.names.lookup z.1 = some .local
  freeN : ∀ y, scope.names.lookup y = some .free → (y, NameKind.free) ∈ scope.names
  xdb : True

theorem inner_fits {scope : Scope} {x : Str} {k : Nat} {C : Addr} (H : CompOK cx scope x k) (hn : Fits cx c env) (hk : env.scope.kind = .function) (hc' : c'.cn = c.cn) (ha' : c'.an = c.an) :
    Fits (cx.inner scope x k) c' (compEnvC scope (clOf env.cells scope.names []) C env) := by
  have hcells : ∀ z ∈ scope.names, z.2 = .free → (env.cells.lookup z.1).isSome = true := fun z hz hf => hn.cells z.1 (H.free z hz hf)
  refine ⟨?_, by rw [hc']; exact hn.cls, by rw [ha']; exact hn.attrs, fun y hy => ?_⟩
  · show (relabel scope env).names = _
    rw [relabel_is hn hk H.free]; rfl
  · change (compScope scope).names.lookup y = some .cell at hy
    unfold compScope at hy
    rw [lookup_comp] at hy
    cases q : scope.names.lookup y with
    | none => rw [q] at hy; cases hy
    | some kd =>
      rw [q] at hy
      simp only [Option.map_some, Option.some.injEq] at hy
      by_cases hf : (kd == NameKind.free) = true
      · have : kd = .free := by simpa using hf
        subst this
        exact (clOf_lookup (y := y) scope.names [] (by simp) hcells).2 (.inr (H.freeN y q))
      · rw [if_neg hf] at hy
        subst hy
        exact absurd rfl (H.nocell (y, .cell) (mem_of_lookup q))

theorem inner_fr {scope : Scope} {x : Str} {k : Nat} {C : Addr} {v : V} {y : Value} {q : Obj} {m : Str → Option Value} (H : CompOK cx scope x k) (hn : Fits cx c env) (F : FR K c w env cx.vis ρ) (hge : c.Ge c') (hw : w.Sub w') (hC : c'.px C = some q) (hq : ObjNs q m) (hm : m x = some y) (hv : VR K w' v y) :
    FR K c' w' (compEnvC scope (clOf env.cells scope.names []) C env) (cx.inner scope x k).vis (upd ρ k v) where
  kind := by show (relabel scope env).kind = _; rw [relabel_is hn F.kind H.free]; exact H.kind
  glob := F.glob
  bi := F.bi
  ns := by
    refine ⟨q, m, .inr hC, hq, fun z j u e1 e2 e3 => ?_⟩
    change (relabel scope env).names.lookup z = some .local at e2
    rw [relabel_is hn F.kind H.free] at e2
    unfold compScope at e2
    rw [lookup_comp] at e2
    by_cases hz : z = x
    · subst hz
      simp [Cxt.inner] at e1
      subst e1
      simp [upd] at e3
      subst e3
      exact ⟨y, hm, hv⟩
    · have hzx : (z == x) = false := by simpa using hz
      unfold Cxt.inner at e1
      simp only [List.lookup_cons, hzx] at e1
      rw [lookup_filter (f := fun n => scope.names.lookup n == some .free)] at e1
      split at e1
      · rename_i hf
        have hf' : scope.names.lookup z = some .free := by simpa using hf
        rw [hf'] at e2
        simp at e2
      · cases e1
  cells z j u e1 e2 e3 := by
    have hcells : ∀ z ∈ scope.names, z.2 = .free → (env.cells.lookup z.1).isSome = true := fun z hz hf => hn.cells z.1 (H.free z hz hf)
    have hz : z ≠ x := fun e => by
      subst e
      have e2' : (relabel scope env).names.lookup z = some .cell ∨ (relabel scope env).names.lookup z = some .free := e2
      rw [relabel_is hn F.kind H.free] at e2'
      unfold compScope at e2'
      rw [lookup_comp, H.x] at e2'
      simp at e2'
    have hzx : (z == x) = false := by simpa using hz
    unfold Cxt.inner at e1
    simp only [List.lookup_cons, hzx] at e1
    rw [lookup_filter (f := fun n => scope.names.lookup n == some .free)] at e1
    split at e1
    · rename_i hf
      have hf' : scope.names.lookup z = some .free := by simpa using hf
      have hmem := H.freeN z hf'
      have hkind := H.free (z, .free) hmem rfl
      have hj : j ≠ k := H.new (z, j) (mem_of_lookup e1)
      simp only [upd, if_neg hj] at e3
      obtain ⟨a, o, y', d1, d2, d3, d4⟩ := F.cells z j u e1 (.inl (by rw [hn.names]; exact hkind)) e3
      obtain ⟨i1, i2⟩ := clOf_lookup (cells := env.cells) (y := z) scope.names [] (by simp) hcells
      obtain ⟨a', ha'⟩ := Option.isSome_iff_exists.mp (i2 (.inr hmem))
      have := i1 a' ha'
      rw [d1] at this; cases this
      exact ⟨a, o, y', ha', hge.px _ _ d2, d3, d4.mono0 hw⟩
    · cases e1
end
end Lw
set_option autoImplicit false
namespace Lw
open PySem PySem.W PySem.Calls PyProof.Rows

abbrev listObj (ys : Array Value) (e : Nat) : Obj := ⟨.type "list", none, .seq ys e, #[]⟩

section
variable {prog : Program} {ω : World} {K : Frag} {mg mb : Str → Option Value} {P : Prog} {cl : Cl} {n : Nat} {cx : Cxt}
  {hd : Bool} {c c' c₁ c₂ : Cx} {w w' w₁ w₂ : Wd} {ρ ρ' : Rho} {σ σ' σr : St} {env : Env} {envs : List Env} {A : Around} {s : Shared} {h h' h₀ : Heap} {l : List (Addr × Obj)}

theorem comp_core {ee ie : Expr} {elt cond : E} {k : Nat} {x : Str} {px pos : Pos} {ifs : List Expr} {scope : Scope} {items xs : List V} {I : Addr} {fp : List Addr} {St : Nat → Heap → Prop} {RR : Value → Addr → Result → Shared → Prop} {Ex : Value → Shared → Prop} {p₀ : Obj}
    (H : CompOK cx scope x k) (hce : Sim prog ω K mg mb P cl n (cx.inner scope x k) elt ee) (hcc : (ifs = [] ∧ cond = .cBool true) ∨ ∃ e, ifs = [e] ∧ Sim prog ω K mg mb P cl n (cx.inner scope x k) cond e)
    (B : Base K c mg mb) (S : SR prog ω K c w σ h₀) (F : FR K c w env cx.vis ρ) (hn : Fits cx c env) (hA : AOK A n false c envs)
    (it : Itr prog ω K A false w (.Name x px) I fp items St) (hst : St 0 s.heap) (hp₀ : s.heap.get? I = some p₀) (hkept : ∀ b ∈ fp, ∃ q, w.g b = some q ∨ c.lk b = some q) (hI : h₀.get? I = none) (hk0 : ∀ b x, h₀.get? b = some x → s.heap.get? b = some x)
    (hlen : items.length ≤ lim) (hcomp : compL (fun v σ => ev P cl false cond (upd ρ k v) σ) (fun v σ => ev P cl false elt (upd ρ k v) σ) items σ = some (.ok xs, σr))
    (hRR : ∀ D C w1 p ys e q h1 h2 tk, (∀ b o, h₀.get? b = some o → b < D) → h₀.get? D = none → h₀.get? C = none → D ≠ I → C ≠ I → C ≠ D → (w.marks [I, D, C]).Le w1 → SR prog ω K (c.pr [(I, p), (D, listObj ys e), (C, q)]) w1 σr h1 → (∃ m, ObjNs q m) → VRs K w1 xs ys.toList → xs.length ≤ lim → (∀ b o, b ≠ I → h1.get? b = some o → h2.get? b = some o) →
      RR (.ref D) C (.ok .next) { s with heap := h2, toks := tk }) :
    wpAny (model prog ω) A (newList []) (fun acc s₃ => wpAny (model prog ω) A (newFunctionEnv scope env.globals (clOf env.cells scope.names []) [] env.qual none .none (some env)) (fun cenv s₄ =>
      codeAny (model prog ω) A (.compStart (.ListComp ee [⟨.Name x px, ie, ifs, 0⟩] scope pos) 0 (.ref I) acc { cenv with scope := relabel scope env }) (RR acc cenv.locals) s₄) Ex s₃) Ex s := by
  refine wpAny_newObj_type (wpAny_newFunctionEnv H.nocell (by intro y hy; simp at hy) (fun h₁ hns₁ hsb₁ => ?_) H.kind)
  dsimp only at hns₁ hsb₁ ⊢
  generalize hH2 : s.heap.push { cls := .type "list", dict := none, data := .seq ([] : List Value).toArray } = H2 at hns₁ hsb₁ ⊢
  have hC : H2.objs.size = s.heap.objs.size + 1 := by rw [← hH2, Heap.size_push]
  generalize hDe : s.heap.objs.size = D at *
  generalize hCe : H2.objs.size = C at *
  have hDC : C ≠ D := by rw [hC]; exact Nat.succ_ne_self _
  have hIlt : I < D := by rw [← hDe]; exact Heap.lt_size hp₀
  have hDI : D ≠ I := Nat.ne_of_gt hIlt
  have hCI : C ≠ I := by rw [hC]; exact Nat.ne_of_gt (Nat.lt_succ_of_lt hIlt)
  have hD0 : s.heap.get? D = none := by rw [← hDe]; exact get_size _
  have hC0 : s.heap.get? C = none := by
    cases q : s.heap.get? C with
    | none => rfl
    | some o => have hq := Heap.lt_size q; rw [hDe, hC] at hq; exact absurd hq (Nat.not_lt.mpr (Nat.le_succ _))
  have back : ∀ a, s.heap.get? a = none → h₀.get? a = none := fun a e => by
    cases q : h₀.get? a with
    | none => rfl
    | some o => rw [hk0 _ _ q] at e; cases e
  have old : ∀ b o, s.heap.get? b = some o → h₁.get? b = some o := fun b o e => by
    have hb := Heap.lt_size e
    rw [hDe] at hb
    refine hsb₁.extBut b o (fun z => by rw [z, hC] at hb; exact absurd hb (Nat.not_lt.mpr (Nat.le_succ _))) ?_
    exact Heap.get?_push_of_some _ (hH2 ▸ Heap.get?_push_of_some _ e)
  have hlist : h₁.get? D = some (listObj #[] 0) := by
    refine hsb₁.extBut D _ (Ne.symm hDC) (Heap.get?_push_of_some _ ?_)
    rw [← hH2, ← hDe]; exact Heap.get?_push_size _ rfl
  obtain ⟨q₀, hq₀, hN₀⟩ := ObjNs.of hns₁
  have hkeys : ∀ (p d q : Obj), keysOfC [(I, p), (D, d), (C, q)] = [I, D, C] := fun _ _ _ => rfl
  have lkI : ∀ (p d q : Obj), ([(I, p), (D, d), (C, q)] : List (Addr × Obj)).lookup I = some p := fun p d q => by simp
  have lkD : ∀ (p d q : Obj), ([(I, p), (D, d), (C, q)] : List (Addr × Obj)).lookup D = some d := fun p d q => by
    have : (D == I) = false := by simpa using hDI
    simp [List.lookup_cons, this]
  have lkC : ∀ (p d q : Obj), ([(I, p), (D, d), (C, q)] : List (Addr × Obj)).lookup C = some q := fun p d q => by
    have h1 : (C == I) = false := by simpa using hCI
    have h2 : (C == D) = false := by simpa using hDC
    simp [List.lookup_cons, h1, h2]
  have stI : ∀ (p p' d q : Obj), setCs [(I, p), (D, d), (C, q)] I p' = [(I, p'), (D, d), (C, q)] := fun p p' d q => by simp [setCs, hDI, hCI]
  have stD : ∀ (p d d' q : Obj), setCs [(I, p), (D, d), (C, q)] D d' = [(I, p), (D, d'), (C, q)] := fun p d d' q => by simp [setCs, Ne.symm hDI, hDC]
  have stC : ∀ (p d q q' : Obj), setCs [(I, p), (D, d), (C, q)] C q' = [(I, p), (D, d), (C, q')] := fun p d q q' => by simp [setCs, Ne.symm hCI, Ne.symm hDC]
  have hnone : ∀ a ∈ [I, D, C], h₀.get? a = none := fun a ha => by
    simp only [List.mem_cons, List.not_mem_nil, or_false] at ha
    rcases ha with rfl | rfl | rfl
    · exact hI
    · exact back _ hD0
    · exact back _ hC0
  have gnone : ∀ a ∈ [I, D, C], w.g a = none := fun a ha => S.fresh_g (hnone a ha)
  have lknone : ∀ a ∈ [I, D, C], c.lk a = none := fun a ha => S.fresh_lk (hnone a ha)
  have pxnone : ∀ a ∈ [I, D, C], c.px a = none := fun a ha => S.fresh_px (hnone a ha)
  have frnone : ∀ a ∈ [I, D, C], ∀ q ∈ c.fr, q.1 ≠ a := fun a ha => S.fresh_fr (hnone a ha)
  have mI : I ∈ [I, D, C] := by simp
  have mD : D ∈ [I, D, C] := by simp
  have mC : C ∈ [I, D, C] := by simp
  have ge : ∀ (p d q : Obj), c.Ge (c.pr [(I, p), (D, d), (C, q)]) := fun p d q => Cx.ge_pr (by rw [hkeys]; exact pxnone)
  have S1 : SR prog ω K (c.pr [(I, p₀), (D, listObj #[] 0), (C, q₀)]) (w.marks [I, D, C]) σ h₁ := by
    have := S.prEnter (l := [(I, p₀), (D, listObj #[] 0), (C, q₀)]) (h' := h₁) (by rw [hkeys]; exact hnone) (fun b o e => old _ _ (hk0 _ _ e)) (fun a ob e => ?_)
    · rw [hkeys] at this; exact this
    · by_cases h1 : a = I
      · subst h1; rw [lkI] at e; cases e; exact old _ _ hp₀
      · by_cases h2 : a = D
        · subst h2; rw [lkD] at e; cases e; exact hlist
        · by_cases h3 : a = C
          · subst h3; rw [lkC] at e; cases e; exact hq₀
          · have : ([(I, p₀), (D, listObj #[] 0), (C, q₀)] : List (Addr × Obj)).lookup a = none := lookup_none.mpr (by rw [hkeys]; simp [h1, h2, h3])
            rw [this] at e; cases e
  have hloc : (compEnvC scope (clOf env.cells scope.names []) C env).kindOf x = some .local := lookup_relabel_local H.x
  have stays : ∀ (i : Nat) (p d1 q1 d2 q2 : Obj) (w1 w2 : Wd) (σ1 σ2 : Lw.St) (h1 h2 : Heap), (w.marks [I, D, C]).Le w1 → (w.marks [I, D, C]).Le w2 → SR prog ω K (c.pr [(I, p), (D, d1), (C, q1)]) w1 σ1 h1 → SR prog ω K (c.pr [(I, p), (D, d2), (C, q2)]) w2 σ2 h2 → St i h1 → St i h2 := by
    intro i p d1 q1 d2 q2 w1 w2 σ1 σ2 h1 h2 l1 l2 T1 T2 st
    refine it.frame i h1 h2 st fun b hb y e => ?_
    rcases hb with rfl | hb
    · rw [T1.kp _ _ (pr_some (lkI p d1 q1))] at e; cases e
      exact T2.kp _ _ (pr_some (lkI p d2 q2))
    · obtain ⟨q, hq⟩ := hkept b hb
      rcases hq with hq | hq
      · rw [T1.kg _ _ (l1.g _ _ hq)] at e; cases e
        exact T2.kg _ _ (l2.g _ _ hq)
      · rw [T1.kl _ _ hq] at e; cases e
        exact T2.kl _ _ hq
  have hst₁ : St 0 h₁ := it.frame 0 _ _ hst fun b _ o e => old b o e
  have loop : codeAny (model prog ω) A (.compLoop (.ListComp ee [⟨.Name x px, ie, ifs, 0⟩] scope pos) 0 (.ref I) (.ref D) (compEnvC scope (clOf env.cells scope.names []) C env)) (RR (.ref D) C) { s with heap := h₁, toks := s.toks + ([] : List (Str × Value)).length } := by
    refine codeAny_compLoop_tests (fun m s1 => ∃ (i : Nat) (w1 : Wd) (p : Obj) (ys : Array Value) (e : Nat) (q : Obj) (acc rest : List V) (σ1 : Lw.St), m = items.length + 1 - i ∧ i ≤ items.length ∧ Same s s1 ∧ (w.marks [I, D, C]).Le w1 ∧ SR prog ω K (c.pr [(I, p), (D, listObj ys e), (C, q)]) w1 σ1 s1.heap ∧
      (∃ m, ObjNs q m) ∧ VRs K w1 acc ys.toList ∧ acc.length ≤ i ∧ St i s1.heap ∧ compL (fun v σ => ev P cl false cond (upd ρ k v) σ) (fun v σ => ev P cl false elt (upd ρ k v) σ) (items.drop i) σ1 = some (.ok rest, σr) ∧ acc ++ rest = xs) ?_ (items.length + 1)
      ⟨0, w.marks [I, D, C], p₀, #[], 0, q₀, [], xs, σ, rfl, Nat.zero_le _, .of _ _ _, .refl _, S1, ⟨_, hN₀⟩, .nil, Nat.zero_le _, hst₁, by simpa using hcomp, rfl⟩
    rintro m s1 ⟨i, w1, p, ys, e, q, acc, rest, σ1, rfl, hi, hs1, hw1, T1, ⟨mq, hNq⟩, hacc, hal, st1, hc1, hxs⟩
    cases hv : items[i]? with
    | none =>
      have hie : i = items.length := Nat.le_antisymm hi (by simpa using hv)
      subst hie
      simp only [List.drop_length, compL, Option.some.injEq, Prod.mk.injEq, Res.ok.injEq] at hc1
      obtain ⟨rfl, rfl⟩ := hc1
      rw [List.append_nil] at hxs
      subst hxs
      refine it.done rfl s1 _ _ st1 fun h2 tk2 k2 => ?_
      obtain ⟨hh, tt, rfl⟩ := hs1
      exact hRR D C w1 p ys e q hh h2 tk2 (fun b o e => by rw [← hDe]; exact Heap.lt_size (hk0 b o e)) (hnone D mD) (hnone C mC) hDI hCI hDC hw1 T1 ⟨_, hNq⟩ hacc (Nat.le_trans hal hlen) k2
    | some v =>
      have hlt : i < items.length := (List.getElem?_eq_some_iff.mp hv).1
      have hdrop : items.drop i = v :: items.drop (i + 1) := by
        rw [List.drop_eq_getElem_cons hlt]
        have := (List.getElem?_eq_some_iff.mp hv).2
        rw [this]
      rw [hdrop, compL] at hc1
      refine it.item i v s1 _ _ hv st1 fun y h2 tk2 hy st2 k2 => ?_
      obtain ⟨p2, hp2⟩ := it.at_ _ _ st2
      have T2 : SR prog ω K (c.pr [(I, p2), (D, listObj ys e), (C, q)]) w1 σ1 h2 := by
        have := T1.prSet (lkI _ _ _) (hw1.unfrozens mI (gnone I mI)) (lknone I mI) (frnone I mI) k2 hp2
        rw [stI] at this; exact this
      have hnsC : h2.Ns C mq := hNq.ns (T2.kp _ _ (pr_some (lkC _ _ _)))
      have hscope : (relabel scope env).kind = .function := H.kind
      refine wpAny_assign_Name (wpAny_storeName_local (m := mq) hloc hnsC (fun h3 hn3 hs3 => ?_) (by simp [compEnvC, hscope]))
      obtain ⟨q3, hq3, hN3⟩ := ObjNs.of hn3
      have T3 : SR prog ω K (c.pr [(I, p2), (D, listObj ys e), (C, q3)]) w1 σ1 h3 := by
        have := T2.prSet (lkC _ _ _) (hw1.unfrozens mC (gnone C mC)) (lknone C mC) (frnone C mC) (fun b o hb e => (hs3.2 b hb).trans e) hq3
        rw [stC] at this; exact this
      have st3 := stays (i + 1) p2 _ _ _ _ w1 w1 _ _ h2 h3 hw1 hw1 T2 T3 st2
      have hsub : w.Sub w1 := ⟨hw1.g, hw1.φ⟩
      have F3 : FR K (c.pr [(I, p2), (D, listObj ys e), (C, q3)]) w1 (compEnvC scope (clOf env.cells scope.names []) C env) (cx.inner scope x k).vis (upd ρ k v) :=
        inner_fr H hn F (ge _ _ _) hsub (pr_some (lkC _ _ _)) hN3 (by simp) (hy.mono0 hsub)
      have hn3' : Fits (cx.inner scope x k) (c.pr [(I, p2), (D, listObj ys e), (C, q3)]) (compEnvC scope (clOf env.cells scope.names []) C env) := inner_fits H hn F.kind rfl rfl
      have B3 := B.ge (ge p2 (listObj ys e) q3)
      have hA3 := hA.ge (ge p2 (listObj ys e) q3)
      have hs3' : Same s { s1 with heap := h3, toks := tk2 + 1 } := hs1.trans (.of _ _ _)
      cases ht : ev P cl false cond (upd ρ k v) σ1 with
      | none => rw [ht] at hc1; cases hc1
      | some rt =>
        obtain ⟨rt, σ2⟩ := rt
        rw [ht] at hc1
        cases rt with
        | exc _ => cases hc1
        | ok tv =>
          dsimp only at hc1
          cases htv : truthV σ2 tv with
          | none => rw [htv] at hc1; cases hc1
          | some b =>
            rw [htv] at hc1
            have after : ∀ (s4 : Shared) (w4 : Wd), Same { s1 with heap := h3, toks := tk2 + 1 } s4 → w1.Le w4 → SR prog ω K (c.pr [(I, p2), (D, listObj ys e), (C, q3)]) w4 σ2 s4.heap →
                (if b = true then wpAny (model prog ω) A (eval ee (compEnvC scope (clOf env.cells scope.names []) C env)) (fun x s₄ =>
                  wpAny (model prog ω) A (call (.builtin "list.append") [.ref D, x]) (fun _ s₅ => ∃ m, m < items.length + 1 - i ∧ ∃ (i : Nat) (w1 : Wd) (p : Obj) (ys : Array Value) (e : Nat) (q : Obj) (acc rest : List V) (σ1 : Lw.St), m = items.length + 1 - i ∧ i ≤ items.length ∧ Same s s₅ ∧ (w.marks [I, D, C]).Le w1 ∧ SR prog ω K (c.pr [(I, p), (D, listObj ys e), (C, q)]) w1 σ1 s₅.heap ∧
                    (∃ m, ObjNs q m) ∧ VRs K w1 acc ys.toList ∧ acc.length ≤ i ∧ St i s₅.heap ∧ compL (fun v σ => ev P cl false cond (upd ρ k v) σ) (fun v σ => ev P cl false elt (upd ρ k v) σ) (items.drop i) σ1 = some (.ok rest, σr) ∧ acc ++ rest = xs) (notedBy (model prog ω) A (compEnvC scope (clOf env.cells scope.names []) C env) fun e s' => RR (.ref D) C (.error e) s') s₄) (notedBy (model prog ω) A (compEnvC scope (clOf env.cells scope.names []) C env) fun e s' => RR (.ref D) C (.error e) s') s4
                else ∃ m, m < items.length + 1 - i ∧ ∃ (i : Nat) (w1 : Wd) (p : Obj) (ys : Array Value) (e : Nat) (q : Obj) (acc rest : List V) (σ1 : Lw.St), m = items.length + 1 - i ∧ i ≤ items.length ∧ Same s s4 ∧ (w.marks [I, D, C]).Le w1 ∧ SR prog ω K (c.pr [(I, p), (D, listObj ys e), (C, q)]) w1 σ1 s4.heap ∧
                    (∃ m, ObjNs q m) ∧ VRs K w1 acc ys.toList ∧ acc.length ≤ i ∧ St i s4.heap ∧ compL (fun v σ => ev P cl false cond (upd ρ k v) σ) (fun v σ => ev P cl false elt (upd ρ k v) σ) (items.drop i) σ1 = some (.ok rest, σr) ∧ acc ++ rest = xs) := by
              intro s4 w4 hs4 hw4 T4
              have hw4' := hw1.trans hw4
              have st4 := stays (i + 1) p2 _ _ _ _ w1 w4 _ _ h3 s4.heap hw1 hw4' T3 T4 st3
              cases b with
              | false =>
                rw [if_neg (by decide)]
                dsimp only at hc1
                exact ⟨items.length + 1 - (i + 1), by omega, i + 1, w4, p2, ys, e, q3, acc, rest, σ2, rfl, hlt, hs3'.trans hs4, hw4', T4, ⟨_, hN3⟩, hacc.mono hw4, Nat.le_succ_of_le hal, st4, hc1, hxs⟩
              | true =>
                rw [if_pos rfl]
                dsimp only at hc1
                cases he : ev P cl false elt (upd ρ k v) σ2 with
                | none => rw [he] at hc1; cases hc1
                | some re =>
                  obtain ⟨re, σ3⟩ := re
                  rw [he] at hc1
                  cases re with
                  | exc _ => cases hc1
                  | ok xe =>
                    dsimp only at hc1
                    refine wpAny_mono (hce.v false _ w4 (upd ρ k v) σ2 _ envs A s4 _ _ he B3 T4 (F3.mono hw4) hn3' hA3) (fun z s5 q5 => ?_) fun _ _ q5 => ?_
                    · obtain ⟨hs5, w5, a5, q5, hw5, T5, hz⟩ := q5
                      cases q5
                      have hD5 := T5.kp _ _ (pr_some (lkD p2 (listObj ys e) q3))
                      have hw5' := hw4'.trans hw5
                      refine wpAny_list_append_plain (l := D) (items := ys) ⟨e, hD5⟩ (fun h6 hl6 hS6 => ?_) ?_
                      · obtain ⟨e6, he6⟩ := hl6
                        have T6 : SR prog ω K (c.pr [(I, p2), (D, listObj (ys.push z) e6), (C, q3)]) w5 σ3 h6 := by
                          have := T5.prSet (lkD _ _ _) (hw5'.unfrozens mD (gnone D mD)) (lknone D mD) (frnone D mD) (fun b o hb e => (hS6.2 b hb).trans e) he6
                          rw [stD] at this; exact this
                        have st6 := stays (i + 1) p2 _ _ _ _ w4 w5 _ _ s4.heap h6 hw4' hw5' T4 T6 st4
                        cases hr : compL (fun v σ => ev P cl false cond (upd ρ k v) σ) (fun v σ => ev P cl false elt (upd ρ k v) σ) (items.drop (i + 1)) σ3 with
                        | none => rw [hr] at hc1; cases hc1
                        | some rr =>
                          obtain ⟨rr, σ4⟩ := rr
                          rw [hr] at hc1
                          cases rr with
                          | exc _ => cases hc1
                          | ok rest' =>
                            simp only [Option.some.injEq, Prod.mk.injEq, Res.ok.injEq] at hc1
                            obtain ⟨rfl, rfl⟩ := hc1
                            refine ⟨items.length + 1 - (i + 1), by omega, i + 1, w5, p2, ys.push z, e6, q3, acc ++ [xe], rest', σ3, rfl, hlt, (hs3'.trans hs4).trans (hs5.trans (.ofH _ _)), hw5', T6, ⟨_, hN3⟩, (hacc.mono (hw4.trans hw5)).push hz, ?_, st6, hr, ?_⟩
                            · simp only [List.length_append, List.length_cons, List.length_nil]; omega
                            · rw [List.append_assoc]; exact hxs
                      · have : ys.size = acc.length := hacc.sizeArr.symm
                        rw [this]
                        exact lim_size (Nat.le_trans hal (Nat.le_trans (Nat.le_of_lt hlt) hlen))
                    · obtain ⟨_, q5, _⟩ := q5; cases q5
            rcases hcc with ⟨rfl, rfl⟩ | ⟨ce, rfl, hcs⟩
            · simp only [e_cBool, Option.some.injEq, Prod.mk.injEq, Res.ok.injEq] at ht
              obtain ⟨rfl, rfl⟩ := ht
              simp only [truthV, Option.some.injEq] at htv
              subst htv
              exact wpAny_tests_nil (after _ w1 (.refl _) (.refl _) T3)
            · refine wpAny_tests_one (wpAny_mono (hcs.t false _ w1 (upd ρ k v) σ1 _ envs A { s1 with heap := h3, toks := tk2 + 1 } _ _ ht (fun _ q => by cases q; exact ⟨b, htv⟩) B3 T3 F3 hn3' hA3) (fun b' s4 q4 => ?_) fun _ _ q4 => ?_)
              · obtain ⟨hs4, w4, a4, q4, hb', hw4, T4⟩ := q4
                cases q4
                rw [htv] at hb'; cases hb'
                exact after s4 w4 hs4 hw4 T4
              · obtain ⟨_, q4, _⟩ := q4; cases q4
  exact codeAny_compStart_list loop (it.self 0 _ _ _ hst₁ loop)
end
end Lw
set_option autoImplicit false
namespace Lw
open PySem PySem.W PySem.Calls PyProof.Rows

section
variable {prog : Program} {ω : World} {K : Frag} {mg mb : Str → Option Value} {P : Prog} {cl : Cl} {n : Nat} {cx : Cxt}
  {hd : Bool} {c c' c₁ c₂ : Cx} {w w' w₁ w₂ : Wd} {ρ ρ' : Rho} {σ σ' σr : St} {env : Env} {envs : List Env} {A : Around} {s : Shared} {h h' h₀ : Heap} {l : List (Addr × Obj)}

theorem items_lim {v : V} {x : Value} {items : List V} (S : SR prog ω K c w σ h) (hv : VR K w v x) (hi : itemsOf σ v = some items) : items.length ≤ lim := by
  cases hv <;> simp only [itemsOf, reduceCtorEq, Option.some.injEq] at hi
  · subst hi; assumption
  · split at hi
    · rename_i hc
      cases hi
      obtain ⟨_, _, _, _, hl⟩ := hc
      unfold rngList; simpa using hl
    · cases hi
  · rename_i i p hp
    split at hi
    · rename_i lk' vs hg
      cases hi
      obtain ⟨q, hq, rr⟩ := S.obj _ _ hg
      obtain ⟨_, xs, k, r1, r2, r3, _⟩ := rr
      exact r3
    · cases hi

theorem Lk.cov {v : V} (l : Lk prog ω K c w h σ v c') {x : Addr} (q : c.Cov x) : c'.Cov x := by
  unfold Cx.Cov at *; rw [l.px, l.fr]; exact q

theorem comp_done {mt : Bool} {itv : V} {xs : List V} {D C I : Addr} {w1 : Wd} {p q : Obj} {ys : Array Value} {e : Nat} {h1 h3 : Heap} {r : Res V} (S : SR prog ω K c w σ h₀) (B : Base K c mg mb) (lk : Lk prog ω K c w h₀ σ itv c')
    (hlt : ∀ b o, h₀.get? b = some o → b < D) (hI : h₀.get? I = none) (hD : h₀.get? D = none) (hC : h₀.get? C = none) (hDI : D ≠ I) (hDC : C ≠ D) (hw1 : (w.marks [I, D, C]).Le w1) (T : SR prog ω K (c'.pr [(I, p), (D, listObj ys e), (C, q)]) w1 σr h1)
    (hxs : VRs K w1 xs ys.toList) (hlen : xs.length ≤ lim) (hk : ∀ b o, b ≠ I → b ≠ C → h1.get? b = some o → h3.get? b = some o) (hm : mkL mt xs (unlockV σ itv σr) = some (r, σ')) :
    ∃ w' a, r = .ok a ∧ w.Le w' ∧ SR prog ω K c w' σ' h3 ∧ VR K w' a (.ref D) := by
  have S' := lk.sr S
  have hnone : ∀ a ∈ [I, D, C], h₀.get? a = none := fun a ha => by
    simp only [List.mem_cons, List.not_mem_nil, or_false] at ha
    rcases ha with rfl | rfl | rfl <;> assumption
  have gn : ∀ a ∈ [I, D, C], w1.g a = none := fun a ha => hw1.unfrozens ha (S.fresh_g (hnone a ha))
  have hkeys : keysOfC [(I, p), (D, listObj ys e), (C, q)] = [I, D, C] := rfl
  have lkD : ([(I, p), (D, listObj ys e), (C, q)] : List (Addr × Obj)).lookup D = some (listObj ys e) := by
    have : (D == I) = false := by simpa using hDI
    simp [List.lookup_cons, this]
  obtain ⟨Sx, no⟩ := T.prLeave (f := w.na) (h' := h3) (by rw [hkeys]; exact fun a ha => ⟨S'.fresh_px (hnone a ha), gn a ha, S'.fresh_lk (hnone a ha), S'.fresh_fr (hnone a ha)⟩) (fun x qx => lk.cov (S.used x qx)) (fun b x hb e => by
    rw [hkeys] at hb
    simp only [List.mem_cons, List.not_mem_nil, or_false, not_or] at hb
    exact hk b x hb.1 hb.2.2 e)
  have le : w.Le (w1.unmark w.na) := hw1.backs
  have Sy := lk.unlock le Sx
  have mD : D ∈ [I, D, C] := by simp
  have hD3 : h3.get? D = some (listObj ys e) := hk D _ hDI (Ne.symm hDC) (T.kp _ _ (pr_some lkD))
  obtain ⟨w2, a, e1, e2, e3, e4⟩ := mkL_own (D := D) Sy (hxs.mono0 Wd.sub_unmark) hlen hm (gn D mD) (S.fresh_px hD) (S.fresh_lk hD) (S.fresh_fr hD) (no D (by rw [hkeys]; exact mD)) (fun q => by
    obtain ⟨o, eo⟩ := S.there (S.used D q)
    rw [hD] at eo; cases eo) (fresh_sys B S hlt) hD3
  exact ⟨w2, a, e1, le.trans e2, e3, e4⟩

theorem sim_comp {mt : Bool} {ee ie : Expr} {elt it cond : E} {k : Nat} {x : Str} {px pos : Pos} {ifs : List Expr} {scope : Scope} (hset : notSetE ie = true)
    (H : CompOK cx scope x k) (hi : Sim prog ω K mg mb P cl n cx it ie) (hce : Sim prog ω K mg mb P cl n (cx.inner scope x k) elt ee) (hcc : (ifs = [] ∧ cond = .cBool true) ∨ ∃ e, ifs = [e] ∧ Sim prog ω K mg mb P cl n (cx.inner scope x k) cond e) :
    Sim prog ω K mg mb P cl n cx (.comp mt elt k it cond) (.ListComp ee [⟨.Name x px, ie, ifs, 0⟩] scope pos) := by
  have h : SimE prog ω K mg mb P cl n cx (.comp mt elt k it cond) (.ListComp ee [⟨.Name x px, ie, ifs, 0⟩] scope pos) := by
    intro hd c w ρ σ env envs A s r' σ' hev B S F hn hA
    rw [e_comp0] at hev
    split at hev
    · cases hev
    · rename_i hd0
      have hd0 : hd = false := by simpa using hd0
      subst hd0
      rw [eval_ListComp]
      have hclos : closureFor scope env = pure (clOf env.cells scope.names []) := closureFor_is fun z hz hf => hn.cells z.1 (H.free z hz hf)
      refine wpAny_comprehension_free (use := none) rfl (folded_plain hset) hclos H.kind H.names ?_
      refine hi.v.bind hev B S F hn hA fun itv xv σ₁ w₁ s₁ hk hs hw S₁ hx => ?_
      split at hk
      · rename_i items hitems
        split at hk
        · rename_i xs σr hcomp
          refine iter_sound (tgt := .Name x px) (items := items) S₁ hA hx (by unfold itersOf; simpa using hitems) trivial fun ob fp St c' lk itr st0 hkept hfr => ?_
          have hob : (s₁.heap.push ob).get? s₁.heap.objs.size = some ob := Heap.get?_push_size _ hfr
          have ge := lk.ge
          refine comp_core (s := { s₁ with heap := s₁.heap.push ob }) H hce hcc (B.ge ge) (lk.sr S₁) ((F.mono hw).ge ge) (hn.ge ge) (hA.ge ge) itr st0 hob (fun b hb => let ⟨_, q, h⟩ := hkept b hb; ⟨q, h⟩) (get_size _) (push_keeps _ _) (items_lim S₁ hx hitems) hcomp ?_
          intro D C w1 p ys e q h1 h2 tk hlt hD hC hDI hCI hDC hw1 T hN hxs hlen k2
          obtain ⟨m, hm⟩ := hN
          have lkC : ([(s₁.heap.objs.size, p), (D, listObj ys e), (C, q)] : List (Addr × Obj)).lookup C = some q := by
            have q1 : (C == s₁.heap.objs.size) = false := by simpa using hCI
            have q2 : (C == D) = false := by simpa using hDC
            simp [List.lookup_cons, q1, q2]
          refine ⟨m, hm.ns (k2 C _ hCI (T.kp _ _ (pr_some lkC))), fun h3 hs3 => ?_⟩
          obtain ⟨w2, a, e1, e2, e3, e4⟩ := comp_done S₁ B lk hlt (get_size _) hD hC hDI hDC hw1 T hxs hlen (fun b o hb1 hb2 e => hs3.extBut b o hb2 (k2 b o hb1 e)) hk
          exact ⟨hs.trans (.of _ _ _), w2, a, e1, hw.trans e2, e3, e4⟩
        · cases hk
      · cases hk
  exact ⟨h, h.simT fun _ _ => rfl⟩
end
end Lw
set_option autoImplicit false
namespace Lw
open PySem PySem.W PySem.Calls PyProof.Rows

structure AOC (A : Around) (n : Nat) (hd : Bool) (c : Cx) (envs : List Env) : Prop where
  handled : hd = false → A.handled = none
  depth : A.depth + 4 * n + 2 < 1000
  units : A.units + 100 * n + 150 < 9900
  frames : A.frames = some envs
  frs : FrsOK envs c.fr
theorem AOK.toC {A : Around} {n : Nat} {hd : Bool} {c : Cx} {envs : List Env} (h : AOK A n hd c envs) : AOC A n hd c envs := ⟨h.handled, by have := h.depth; omega, by have := h.units; omega, h.frames, h.frs⟩

noncomputable def RC (prog : Program) (ω : World) (K : Frag) (c : Cx) (w : Wd) (envs : List Env) (s : Shared) (r : Res V) (σ' : St) : Result → Shared → Prop := fun rr s' => match rr with
  | .ok (.ret v) => QV prog ω K c w s r σ' v s'
  | .ok _ => False
  | .error e => QX prog ω K c w envs s r σ' e s'

noncomputable def SimC (prog : Program) (ω : World) (K : Frag) (mg mb : Str → Option Value) (cn an : List String) (cl : Cl) (n : Nat) (cc m : String) (a : Addr) : Prop :=
  ∀ (hd : Bool) (c : Cx) (w : Wd) (σ : St) (envs : List Env) (A : Around) (s : Shared) (args kvs : List V) (kn : List String) (xs ys : List Value) (r : Res V) (σ' : St),
    cl hd cc m args (kn.zip kvs) σ = some (r, σ') → Base K c mg mb → c.cn = cn → c.an = an → SR prog ω K c w σ s.heap → AOC A n hd c envs → VRs K w args xs → VRs K w kvs ys →
    codeAny (model prog ω) A (.call (.ref a) ⟨xs, (kn.map Str.ofString).zip ys⟩) (RC prog ω K c w envs s r σ') s

structure FnFacts (K : Frag) (cn an : List String) (fn : Fn) (a : Addr) (fd : FuncData) (body : List Stmt) (cx : Cxt) : Prop where
  look : ∃ oc od sl, K.lookup a = some ⟨oc, od, .func fd, sl⟩
  body : fd.body = .stmts body
  code : codeIn K fd.code fd.qualname = true
  kind : fd.scope.kind = .function
  coro : fd.scope.isCoroutine = false
  gen : fd.scope.isGenerator = false
  clos : fd.closure = []
  glob : fd.globals = mainGlobals
  bi : fd.builtins = builtinsNs
  p1 : fd.params.posonlyargs = []
  p2 : fd.params.kwonlyargs = []
  p3 : fd.params.vararg = none
  p4 : fd.params.kwarg = none
  names : fd.params.args.map (·.arg) = fn.params.map Str.ofString
  nodup : fn.params.Nodup
  dlen : fn.defaults.length ≤ fn.params.length
  dfl : (fd.defaults = .none ∧ fn.defaults = []) ∨ ∃ T o its k, fd.defaults = .ref T ∧ K.lookup T = some o ∧ o.data = .seq its k ∧ ∀ w, VRs K w fn.defaults its.toList
  scope : cx.scope = fd.scope
  cls : cx.cls = cn
  attrs : cx.attrs = an
  pars : ∀ j p, fn.params[j]? = some p → cx.vis.lookup (Str.ofString p) = some j
  vis : VisOK cx.vis
  kinds : ∀ p ∈ fn.params, fd.scope.names.lookup (Str.ofString p) = some .local ∨ fd.scope.names.lookup (Str.ofString p) = some .cell
  nnd : (fd.scope.names.map (·.1)).Nodup

theorem lk_map {α : Type} (kn : List String) (kvs : List α) (p : String) : lk ((kn.map Str.ofString).zip kvs) (Str.ofString p) = lk (kn.zip kvs) p := by
  induction kn generalizing kvs with
  | nil => simp [lk]
  | cons k r ih =>
    cases kvs with
    | nil => simp [lk]
    | cons v vs =>
      by_cases q : k = p
      · subst q; simp [lk]
      · have : ¬ Str.ofString k = Str.ofString p := fun e => q (ofString_inj e)
        have e1 : lk ((k, v) :: r.zip vs) p = lk (r.zip vs) p := by simp [lk, q]
        have e2 : lk ((Str.ofString k, v) :: (r.map Str.ofString).zip vs) (Str.ofString p) = lk ((r.map Str.ofString).zip vs) (Str.ofString p) := by simp [lk, this]
        simp only [List.map_cons, List.zip_cons_cons, e1, e2]
        exact ih vs

section
variable {K : Frag} {w : Wd}
inductive VRo (K : Frag) (w : Wd) : Option V → Option Value → Prop
  | none : VRo K w none none
  | some {v : V} {x : Value} : VR K w v x → VRo K w (some v) (some x)
theorem VRo.or {a b : Option V} {x y : Option Value} (h : VRo K w a x) (k : VRo K w b y) : VRo K w (a.or b) (x.or y) := by
  cases h with
  | none => simpa using k
  | some h => simpa using VRo.some h
theorem VRs.opt {vs : List V} {xs : List Value} (h : VRs K w vs xs) (j : Nat) : VRo K w vs[j]? xs[j]? := by
  cases q : vs[j]? with
  | none =>
    have : xs[j]? = none := by rw [List.getElem?_eq_none_iff] at *; rw [← h.length]; exact q
    rw [this]; exact .none
  | some v => obtain ⟨x, e, hv⟩ := h.get q; rw [e]; exact .some hv
theorem zip_opt (p : String) : ∀ {kvs : List V} {ys : List Value} (kn : List String), VRs K w kvs ys → VRo K w (lk (kn.zip kvs) p) (lk (kn.zip ys) p)
  | _, _, kn, .nil => by simp [lk]; exact .none
  | _, _, [], .cons _ _ => by simp [lk]; exact .none
  | v :: vs, x :: xs, k :: r, .cons hv h => by
    by_cases q : k = p
    · subst q; simp [lk]; exact .some hv
    · have e1 : lk ((k, v) :: r.zip vs) p = lk (r.zip vs) p := by simp [lk, q]
      have e2 : lk ((k, x) :: r.zip xs) p = lk (r.zip xs) p := by simp [lk, q]
      simp only [List.zip_cons_cons, e1, e2]
      exact zip_opt p r h
theorem dfls_opt {ds : List V} {xs : List Value} (h : VRs K w ds xs) (m j : Nat) : VRo K w ((dfls m ds)[j]?).join ((dfls m xs)[j]?).join := by
  unfold dfls
  rw [← h.length]
  by_cases q : j < m - ds.length
  · rw [List.getElem?_append_left (by simpa using q), List.getElem?_append_left (by simpa using q), List.getElem?_replicate, if_pos q, List.getElem?_replicate, if_pos q]
    exact .none
  · rw [List.getElem?_append_right (by simpa using q), List.getElem?_append_right (by simpa using q), List.length_replicate, List.length_replicate, List.getElem?_map, List.getElem?_map]
    have hh := h.opt (j - (m - ds.length))
    revert hh
    generalize ds[j - (m - ds.length)]? = a
    generalize xs[j - (m - ds.length)]? = b
    intro hh
    cases hh with
    | none => exact .none
    | some hv => exact .some hv
theorem bindP_sound {ps : List String} {args kvs ds vs : List V} {kn : List String} {xs ys dv : List Value} (ha : VRs K w args xs) (hk : VRs K w kvs ys) (hd : VRs K w ds dv) (hb : bindP ps args (kn.zip kvs) (dfls ps.length ds) = some vs) :
    ∃ zs, bindP (ps.map Str.ofString) xs ((kn.map Str.ofString).zip ys) (dfls (ps.map Str.ofString).length dv) = some zs ∧ VRs K w vs zs := by
  unfold bindP at hb ⊢
  split at hb
  · rename_i hl
    rw [if_pos (by rw [← ha.length]; simpa using hl)]
    have key : ∀ (qs : List String) (k : Nat) (us : List V), mapO (fun pj : String × Nat => (args[pj.2]?).or ((lk (kn.zip kvs) pj.1).or (((dfls ps.length ds)[pj.2]?).join))) (qs.zipIdx k) = some us →
        ∃ zs, mapO (fun pj : Str × Nat => (xs[pj.2]?).or ((lk ((kn.map Str.ofString).zip ys) pj.1).or (((dfls (ps.map Str.ofString).length dv)[pj.2]?).join))) ((qs.map Str.ofString).zipIdx k) = some zs ∧ VRs K w us zs := by
      intro qs
      induction qs with
      | nil => intro k us h; simp [mapO] at h; subst h; exact ⟨[], rfl, .nil⟩
      | cons q r ih =>
        intro k us h
        simp only [List.zipIdx_cons, mapO, List.map_cons] at h ⊢
        split at h
        · rename_i b bs h1 h2
          cases h
          obtain ⟨zs, e1, e2⟩ := ih (k + 1) bs h2
          have hv := (ha.opt k).or ((zip_opt q kn hk).or (dfls_opt hd ps.length k))
          rw [h1] at hv
          rw [e1, lk_map, List.length_map]
          cases hq : (xs[k]?).or ((lk (kn.zip ys) q).or (((dfls ps.length dv)[k]?).join)) with
          | none => rw [hq] at hv; cases hv
          | some z =>
            rw [hq] at hv
            cases hv with
            | some hv => exact ⟨z :: zs, rfl, .cons hv e2⟩
        · cases h
    exact key ps 0 vs hb
  · cases hb
end
end Lw
set_option autoImplicit false
namespace Lw
open PySem PySem.W PySem.Calls PyProof.Rows

section
variable {prog : Program} {ω : World} {K : Frag} {mg mb : Str → Option Value} {P : Prog} {cl : Cl} {n : Nat} {cx : Cxt}
  {hd : Bool} {c c' c₁ c₂ : Cx} {w w' w₁ w₂ : Wd} {ρ ρ' : Rho} {σ σ' σr : St} {env : Env} {envs : List Env} {A : Around} {s : Shared} {h h' h₀ : Heap} {cs cs' : List (Addr × Obj)} {L : Addr} {o o' : Obj}

theorem SR.enterF (S : SR prog ω K c w σ h) (hL : h.get? L = none) (hcs : ∀ a ∈ keysOfC cs, h.get? a = none) (k : ∀ b x, h.get? b = some x → h'.get? b = some x) (ho : h'.get? L = some o) (hl : ∀ a ob, cs.lookup a = some ob → h'.get? a = some ob) :
    SR prog ω K (c.frame L o cs) (w.marks (L :: keysOfC cs)) σ h' := by
  have T := S.prEnter (l := cs) hcs k hl
  refine ⟨T.kg, T.kp, T.kl, fun q hq => ?_, T.len, fun x q => ?_, fun i ob e => ?_, fun i p e => ?_, T.apart⟩
  · rcases List.mem_cons.mp hq with rfl | hq
    · exact ⟨o.slots, ho⟩
    · exact T.kf q hq
  · rcases q with q | q
    · rcases List.mem_cons.mp q with rfl | q
      · exact .inr ⟨(x, o), List.mem_cons_self .., rfl⟩
      · rcases T.used x (.inl q) with e | ⟨z, hz, e⟩
        · exact .inl e
        · exact .inr ⟨z, List.mem_cons_of_mem _ hz, e⟩
    · rcases T.used x (.inr q) with e | ⟨z, hz, e⟩
      · exact .inl e
      · exact .inr ⟨z, List.mem_cons_of_mem _ hz, e⟩
  · obtain ⟨p, x, r⟩ := T.obj i ob e
    have r' : ORel prog ω K (c.frame L o cs) (w.marks (keysOfC cs)) h' p ob := r.cx rfl rfl
    have hsub : (w.marks (keysOfC cs)).Sub (w.marks (L :: keysOfC cs)) := ⟨fun _ _ q => q, List.prefix_refl _⟩
    exact ⟨p, x, r'.mono0 hsub fun _ _ _ q => q⟩
  · obtain ⟨a, b, d, f⟩ := T.out i p e
    obtain ⟨_, _, _, _, ⟨o1, e1⟩, ⟨o2, e2⟩, _⟩ := S.out i p e
    refine ⟨a, b, fun q hq => ?_, f⟩
    rcases List.mem_cons.mp hq with rfl | hq
    · refine ⟨fun z => ?_, fun z => ?_⟩
      · have z' : L = p.1 := z
        rw [← z', hL] at e1; cases e1
      · have z' : L = p.2 := z
        rw [← z', hL] at e2; cases e2
    · exact d q hq

theorem SR.leaveF {f : Addr → Prop} (S : SR prog ω K (c.frame L o' cs') w₁ σ' h') (hpx : ∀ a ∈ keysOfC cs', c.px a = none) (hu : ∀ x, f x → c.Cov x) : SR prog ω K c (w₁.unmark f) σ' h' := by
  refine ⟨S.kg, fun x ob e => S.kp x ob ?_, S.kl, fun q hq => S.kf q (List.mem_cons_of_mem _ hq), S.len, hu, fun i ob e => ?_, fun i p e => ?_, S.apart⟩
  · have q : cs'.lookup x = none := by
      cases z : cs'.lookup x with
      | none => rfl
      | some y => rw [hpx x (mem_keys z)] at e; cases e
    show (match cs'.lookup x with | some z => some z | none => c.px x) = some ob
    rw [q]; exact e
  · obtain ⟨p, x, r⟩ := S.obj i ob e
    exact ⟨p, x, (r.cx rfl rfl).mono0 Wd.sub_unmark fun _ _ _ q => q⟩
  · obtain ⟨a, b, d, f', g1, g2, y, z⟩ := S.out i p e
    refine ⟨a, b, fun q hq => d q (List.mem_cons_of_mem _ hq), f', g1, g2, ?_, ?_⟩
    · change (match cs'.lookup p.1 with | some z => some z | none => c.px p.1) = none at y
      split at y
      · cases y
      · exact y
    · change (match cs'.lookup p.2 with | some z => some z | none => c.px p.2) = none at z
      split at z
      · cases z
      · exact z
end
end Lw
set_option autoImplicit false
namespace Lw
open PySem PySem.W PySem.Calls PyProof.Rows

theorem bindL_look {kindOf : Str → Option NameKind} : ∀ (names : List Str) (ys : List Value) (m : Str → Option Value) (x : Str), names.Nodup →
    bindL kindOf (names.zip ys) m x = if kindOf x = some .local then ((names.zip ys).lookup x).or (m x) else m x
  | [], _, m, x, _ => by simp [bindL]
  | n :: r, [], m, x, _ => by simp [bindL]
  | n :: r, y :: ys, m, x, hnd => by
    rw [List.zip_cons_cons, bindL, bindL_look r ys _ x (List.nodup_cons.mp hnd).2]
    have hn := (List.nodup_cons.mp hnd).1
    by_cases q : x = n
    · subst q
      rw [zip_lookup_none r ys x hn]
      by_cases hk : kindOf x = some .local
      · simp [hk]
      · simp [hk]
    · have hq : (x == n) = false := by simpa using q
      rw [List.lookup_cons, hq]
      by_cases hk : kindOf n = some .local
      · simp [hk, q]
      · simp [hk]
theorem bindC_look {kindOf : Str → Option NameKind} : ∀ (names : List Str) (ys : List Value) (m : Str → Option Value) (x : Str), names.Nodup →
    bindC kindOf (names.zip ys) m x = if kindOf x = some .local then m x else ((names.zip ys).lookup x).or (m x)
  | [], _, m, x, _ => by simp [bindC]
  | n :: r, [], m, x, _ => by simp [bindC]
  | n :: r, y :: ys, m, x, hnd => by
    rw [List.zip_cons_cons, bindC, bindC_look r ys _ x (List.nodup_cons.mp hnd).2]
    have hn := (List.nodup_cons.mp hnd).1
    by_cases q : x = n
    · subst q
      rw [zip_lookup_none r ys x hn]
      by_cases hk : kindOf x = some .local
      · simp [hk]
      · simp [hk]
    · have hq : (x == n) = false := by simpa using q
      rw [List.lookup_cons, hq]
      by_cases hk : kindOf n = some .local
      · simp [hk]
      · simp [hk, q]

theorem cellsFrom_keep {x : Str} : ∀ (names : List (Str × NameKind)) (k : Nat) (acc : List (Str × Addr)), (acc.lookup x).isSome = true → ((cellsFrom k names acc).lookup x).isSome = true
  | [], _, _, h => h
  | (n, kd) :: r, k, acc, h => by
    unfold cellsFrom
    split
    · refine cellsFrom_keep r _ _ ?_
      rw [List.lookup_cons]
      split
      · rfl
      · exact h
    · exact cellsFrom_keep r k acc h
theorem cellsFrom_has {x : Str} : ∀ (names : List (Str × NameKind)) (k : Nat) (acc : List (Str × Addr)), names.lookup x = some .cell → ((cellsFrom k names acc).lookup x).isSome = true
  | [], _, _, h => by simp at h
  | (n, kd) :: r, k, acc, h => by
    unfold cellsFrom
    by_cases q : x = n
    · subst q
      simp at h
      subst h
      rw [if_pos (by decide)]
      exact cellsFrom_keep r _ _ (by simp)
    · have hq : (x == n) = false := by simpa using q
      rw [List.lookup_cons, hq] at h
      split
      · exact cellsFrom_has r _ _ h
      · exact cellsFrom_has r _ _ h
theorem cellsFrom_names : ∀ (names : List (Str × NameKind)) (k : Nat) (acc : List (Str × Addr)), (names.map (·.1)).Nodup → (acc.map (·.1)).Nodup → (∀ x ∈ names.map (·.1), x ∉ acc.map (·.1)) → ((cellsFrom k names acc).map (·.1)).Nodup
  | [], _, _, _, h, _ => h
  | (n, kd) :: r, k, acc, hn, ha, hd => by
    have hn' := List.nodup_cons.mp hn
    unfold cellsFrom
    split
    · refine cellsFrom_names r _ _ hn'.2 (List.nodup_cons.mpr ⟨hd n (by simp), ha⟩) fun x hx hm => ?_
      rcases List.mem_cons.mp hm with e | hm
      · exact hn'.1 (e ▸ hx)
      · exact hd x (List.mem_cons_of_mem _ hx) hm
    · exact cellsFrom_names r k acc hn'.2 ha fun x hx => hd x (List.mem_cons_of_mem _ hx)
theorem lookup_of_mem {α : Type} : ∀ {l : List (Str × α)} {n : Str} {a : α}, (l.map (·.1)).Nodup → (n, a) ∈ l → l.lookup n = some a
  | [], _, _, _, h => by simp at h
  | (m, b) :: r, n, a, hnd, h => by
    have hn := List.nodup_cons.mp hnd
    rcases List.mem_cons.mp h with e | h
    · cases e; simp
    · have : n ≠ m := fun e => hn.1 (e ▸ List.mem_map.mpr ⟨_, h, rfl⟩)
      have hq : (n == m) = false := by simpa using this
      rw [List.lookup_cons, hq]
      exact lookup_of_mem hn.2 h

noncomputable def cellObjs (h : Heap) (cells : List (Str × Addr)) : List (Addr × Obj) := cells.map fun p => (p.2, (h.get? p.2).getD { cls := .none, data := .cell none })
theorem cellObjs_look {h : Heap} {a : Addr} {ob : Obj} : ∀ {cells : List (Str × Addr)}, (cellObjs h cells).lookup a = some ob → (∃ n, (n, a) ∈ cells) ∧ ob = (h.get? a).getD { cls := .none, data := .cell none }
  | [], e => by simp [cellObjs] at e
  | (n, b) :: r, e => by
    unfold cellObjs at e
    rw [List.map_cons] at e
    by_cases q : a = b
    · subst q
      simp at e
      exact ⟨⟨n, by simp⟩, e.symm⟩
    · have hq : (a == b) = false := by simpa using q
      rw [List.lookup_cons, hq] at e
      obtain ⟨⟨m, hm⟩, e'⟩ := cellObjs_look (h := h) (cells := r) e
      exact ⟨⟨m, List.mem_cons_of_mem _ hm⟩, e'⟩
theorem cellObjs_has {h : Heap} {a : Addr} {n : Str} : ∀ {cells : List (Str × Addr)}, (n, a) ∈ cells → (cellObjs h cells).lookup a = some ((h.get? a).getD { cls := .none, data := .cell none })
  | [], e => by simp at e
  | (m, b) :: r, e => by
    unfold cellObjs
    rw [List.map_cons]
    by_cases q : a = b
    · subst q; simp
    · have hq : (a == b) = false := by simpa using q
      rw [List.lookup_cons, hq]
      rcases List.mem_cons.mp e with e | e
      · cases e; exact absurd rfl q
      · exact cellObjs_has e
theorem cellObjs_keys {h : Heap} {cells : List (Str × Addr)} : keysOfC (cellObjs h cells) = cells.map (·.2) := by
  unfold keysOfC cellObjs
  rw [List.map_map]; rfl
end Lw
set_option autoImplicit false
namespace Lw
open PySem PySem.W PySem.Calls PyProof.Rows

theorem get_above {h : Heap} {a : Addr} (e : h.objs.size ≤ a) : h.get? a = none := by
  cases q : h.get? a with
  | none => rfl
  | some o => exact absurd (Heap.lt_size q) (Nat.not_lt.mpr e)

section
variable {prog : Program} {ω : World} {K : Frag} {mg mb : Str → Option Value} {P : Prog} {cl : Cl} {n : Nat} {cx : Cxt} {cn an : List String}
  {hd : Bool} {c c' c₁ c₂ : Cx} {w w' w₁ w₂ : Wd} {ρ ρ' : Rho} {σ σ' σr : St} {env : Env} {envs : List Env} {A : Around} {s s₁ : Shared} {h h' h₀ : Heap} {cs cs' : List (Addr × Obj)} {L : Addr} {o o' : Obj}
  {fn : Fn} {a : Addr} {fd : FuncData} {body : List Stmt}

theorem frame_made {vs : List V} {zs : List Value} {q : Str} {f : Option Addr} {cd : Value} (H : FnFacts K cn an fn a fd body cx) (hcn : c.cn = cn) (han : c.an = an) (S : SR prog ω K c w σ s.heap) (hv : VRs K w vs zs) (hlen : fn.params.length = zs.length)
    (he : env = newEnv fd.scope s.heap.objs.size fd.globals (cellsFrom (s.heap.objs.size + 1) fd.scope.names []) q f cd none fd.builtins)
    (x : InCallC s env.locals (bindL env.kindOf ((fn.params.map Str.ofString).zip zs) fun _ => none) env.cells (bindC env.kindOf ((fn.params.map Str.ofString).zip zs) fun _ => none) s₁) :
    ∃ o, InF prog ω K c (w.marks (s.heap.objs.size :: keysOfC (cellObjs s₁.heap env.cells))) σ (rhoOf vs) env cx.vis s.heap.objs.size o (cellObjs s₁.heap env.cells) s₁.heap ∧ Fits cx c env ∧ ∃ es ep, o.data = .dict es ep := by
  have hloc : env.locals = s.heap.objs.size := by rw [he]; rfl
  have hfrm : env.frame = some s.heap.objs.size := by rw [he]; rfl
  have hsc : env.scope = fd.scope := by rw [he]; rfl
  have hcl : env.cells = cellsFrom (s.heap.objs.size + 1) fd.scope.names [] := by rw [he]; rfl
  have hg : env.globals = fd.globals := by rw [he]; rfl
  have hbi : env.builtins = fd.builtins := by rw [he]; rfl
  rw [hloc] at x
  have hcnd : (env.cells.map (·.1)).Nodup := by rw [hcl]; exact cellsFrom_names _ _ _ H.nnd (by simp) (by simp)
  have hcell : ∀ m b, (m, b) ∈ env.cells → ∃ ob, s₁.heap.get? b = some ob ∧ ob.data = .cell (bindC env.kindOf ((fn.params.map Str.ofString).zip zs) (fun _ => none) m) := fun m b hm => x.cell m b (lookup_of_mem hcnd hm)
  have hkeys : ∀ b ∈ keysOfC (cellObjs s₁.heap env.cells), s.heap.objs.size < b := fun b hb => by
    rw [cellObjs_keys] at hb
    obtain ⟨⟨m, b'⟩, hm, rfl⟩ := List.mem_map.mp hb
    exact x.above m b' hm
  have hfresh : ∀ b ∈ keysOfC (cellObjs s₁.heap env.cells), s.heap.get? b = none := fun b hb => get_above (Nat.le_of_lt (hkeys b hb))
  have hL0 := get_size s.heap
  obtain ⟨o, ho, hN⟩ := ObjNs.of x.toInCall.ns
  have hlk : ∀ b ob, (cellObjs s₁.heap env.cells).lookup b = some ob → s₁.heap.get? b = some ob := fun b ob e => by
    obtain ⟨⟨m, hm⟩, rfl⟩ := cellObjs_look e
    obtain ⟨ob, h1, _⟩ := hcell m b hm
    rw [h1]; rfl
  have hnames : (fn.params.map Str.ofString).Nodup := H.nodup.map _ fun a b hab e => hab (ofString_inj e)
  have hpar : ∀ y k v, cx.vis.lookup y = some k → rhoOf vs k = some v → y ∈ fn.params.map Str.ofString ∧ ∃ z, ((fn.params.map Str.ofString).zip zs).lookup y = some z ∧ VR K w v z := fun y k v e1 e3 => by
    obtain ⟨z, hz, hvz⟩ := hv.get e3
    have hk : k < zs.length := (List.getElem?_eq_some_iff.mp hz).1
    have hkp : k < fn.params.length := by omega
    have hp : fn.params[k]? = some fn.params[k] := List.getElem?_eq_getElem hkp
    have hy := H.vis y _ k e1 (H.pars k _ hp)
    have hyk : (fn.params.map Str.ofString)[k]? = some y := by rw [List.getElem?_map, hp, hy]; rfl
    exact ⟨List.mem_of_getElem? hyk, z, by rw [zip_lookup _ zs k y hnames hyk]; exact hz, hvz⟩
  have hkind : ∀ y ∈ fn.params.map Str.ofString, fd.scope.names.lookup y = some .local ∨ fd.scope.names.lookup y = some .cell := fun y hy => by
    obtain ⟨p, hp, rfl⟩ := List.mem_map.mp hy
    exact H.kinds p hp
  refine ⟨o, ⟨S.enterF hL0 hfresh x.toInCall.keep ho hlk, ?_, ?_⟩, ?_, let ⟨es, ep, e, _⟩ := hN; ⟨es, ep, e⟩⟩
  · refine ⟨by rw [hsc]; exact H.kind, hg.trans H.glob, hbi.trans H.bi, ⟨o, _, .inl (by rw [hloc]; exact List.mem_cons_self ..), hN, fun y k v e1 e2 e3 => ?_⟩, fun y k v e1 e2 e3 => ?_⟩
    · obtain ⟨hy, z, hz, hvz⟩ := hpar y k v e1 e3
      refine ⟨z, ?_, hvz.mono0 Wd.sub_marks⟩
      rw [bindL_look _ _ _ _ hnames, if_pos (show env.kindOf y = some .local from e2), hz]; rfl
    · obtain ⟨hy, z, hz, hvz⟩ := hpar y k v e1 e3
      rw [hsc] at e2
      have e2' : fd.scope.names.lookup y = some .cell := by
        rcases hkind y hy with q | q
        · rw [q] at e2; rcases e2 with e2 | e2 <;> cases e2
        · exact q
      have hh : (env.cells.lookup y).isSome = true := by rw [hcl]; exact cellsFrom_has _ _ _ e2'
      obtain ⟨b, hb⟩ := Option.isSome_iff_exists.mp hh
      obtain ⟨ob, h1, h2⟩ := hcell y b (mem_of_lookup hb)
      refine ⟨b, ob, z, hb, ?_, ?_, hvz.mono0 Wd.sub_marks⟩
      · show (match (cellObjs s₁.heap env.cells).lookup b with | some z => some z | none => c.px b) = _
        rw [cellObjs_has (mem_of_lookup hb), h1]; rfl
      · rw [h2, bindC_look _ _ _ _ hnames, if_neg (show ¬ env.kindOf y = some .local from by unfold Env.kindOf; rw [hsc, e2']; decide), hz]; rfl
  · refine ⟨hloc, hfrm, fun y b e => ?_, fun y z b e1 e2 => name_of_addr x.apart (mem_of_lookup e1) (mem_of_lookup e2), ⟨_, hN⟩, .inl (List.mem_cons_self ..), S.fresh_g hL0, fun b ob e => ?_, S.fresh_px hL0, S.fresh_lk hL0, S.fresh_fr hL0⟩
    · obtain ⟨ob, h1, h2⟩ := hcell y b (mem_of_lookup e)
      exact ⟨ob, _, by rw [cellObjs_has (mem_of_lookup e), h1]; rfl, h2⟩
    · have hb := mem_keys e
      have hf := hfresh b hb
      exact ⟨.inl (List.mem_cons_of_mem _ hb), S.fresh_g hf, Nat.ne_of_gt (hkeys b hb), S.fresh_px hf, S.fresh_lk hf, S.fresh_fr hf⟩
  · exact ⟨by rw [hsc, H.scope], H.cls.trans hcn.symm, H.attrs.trans han.symm, fun y e => by rw [hcl]; exact cellsFrom_has _ _ _ (by rw [← H.scope]; exact e)⟩

theorem SR.fly {Bh : Heap} (S : SR prog ω K c w σ h) (hg : ∀ b o, w.g b = some o → Bh.get? b = some o) (hp : ∀ b o, c.px b = some o → Bh.get? b = some o) (hl : ∀ b o, c.lk b = some o → Bh.get? b = some o)
    (hφ : ∀ (i : Nat) (p : Addr × Addr), w.φ[i]? = some p → ∀ o, (h.get? p.1 = some o → Bh.get? p.1 = some o) ∧ (h.get? p.2 = some o → Bh.get? p.2 = some o))
    (hs : Bh.StaysIn h') (hu : h.UpToSlots h') (hf : FrsOK envs c.fr) : SR prog ω K c w σ h' where
  kg x o e := hs _ _ (hg x o e)
  kp x o e := hs _ _ (hp x o e)
  kl x o e := hs _ _ (hl x o e)
  kf q hq := by
    obtain ⟨sl, e⟩ := S.kf q hq
    have hd : ∃ es ep, q.2.data = .dict es ep := by
      have : ∀ (es : List Env) (fs : List (Addr × Obj)), FrsOK es fs → ∀ q ∈ fs, ∃ es ep, q.2.data = .dict es ep := by
        intro es fs
        induction fs generalizing es with
        | nil => intro _ q hq; simp at hq
        | cons f r ih =>
          intro H q hq
          cases es with
          | nil => exact absurd H (by simp [FrsOK])
          | cons e es =>
            obtain ⟨⟨_, _, h3⟩, h4⟩ := H
            rcases List.mem_cons.mp hq with rfl | hq
            · exact h3
            · exact ih es h4 q hq
      exact this _ _ hf q hq
    obtain ⟨es, ep, hd⟩ := hd
    obtain ⟨sl', e'⟩ := hu _ _ e (fun vs z => by rw [show ({ q.2 with slots := sl } : Obj).data = q.2.data from rfl, hd] at z; cases z)
    exact ⟨sl', e'⟩
  len := S.len
  used := S.used
  obj i o e := let ⟨p, x, r⟩ := S.obj i o e; ⟨p, x, r.mono (.refl _) fun b y hb e => hs _ _ (by rcases hb with rfl | rfl; exact (hφ i p x y).1 e; exact (hφ i p x y).2 e)⟩
  out i p e := by
    obtain ⟨x, b, d, f, ⟨o1, e1⟩, ⟨o2, e2⟩, y⟩ := S.out i p e
    exact ⟨x, b, d, f, ⟨o1, hs _ _ ((hφ i p e o1).1 e1)⟩, ⟨o2, hs _ _ ((hφ i p e o2).2 e2)⟩, y⟩
  apart := S.apart

theorem defaults_at (H : FnFacts K cn an fn a fd body cx) (X : K.In s.heap) : ∃ ds, (∀ w, VRs K w fn.defaults ds) ∧
    ∀ (M : Model) (A : Around) (E : Value → Shared → Prop) (Q : Option (Array Value) → Shared → Prop), (∀ r : Option (Array Value), (r.getD #[]).toList = ds → Q r s) → wpAny M A (seqItems? fd.defaults) Q E s := by
  rcases H.dfl with ⟨e1, e2⟩ | ⟨T, o, its, k, e1, e2, e3, e4⟩
  · refine ⟨[], fun w => by rw [e2]; exact .nil, fun M A E Q hQ => ?_⟩
    rw [e1]
    exact wpAny_pure (hQ none rfl)
  · refine ⟨its.toList, e4, fun M A E Q hQ => ?_⟩
    rw [e1]
    refine wpAny_bind (wpAny_loadPart (X _ _ e2) ?_)
    rw [e3]
    exact wpAny_pure (hQ (some its) rfl)

theorem simC_step {cc m : String} (hfn : P.fns cc m = some fn) (H : FnFacts K cn an fn a fd body cx) (hb : SimSs prog ω K mg mb P (run P n) n cx fn.body body) : SimC prog ω K mg mb cn an (run P (n + 1)) (n + 1) cc m a := by
  intro hd c w σ envs A s args kvs kn xs ys r σ' hev B hcn han S hA ha hk
  rw [run] at hev
  simp only [hfn] at hev
  split at hev
  rotate_left
  · cases hev
  rename_i hkw
  simp only [Bool.and_eq_true, decide_eq_true_eq, List.all_eq_true, List.contains_iff_mem] at hkw
  split at hev
  · cases hev
  rename_i vs hbp
  obtain ⟨oc, od, sl, hlook⟩ := H.look
  have X := B.kin S
  obtain ⟨ds, hds, hdef⟩ := defaults_at H X
  obtain ⟨zs, hz, hvz⟩ := bindP_sound ha hk (hds w) hbp
  have hnames : (fn.params.map Str.ofString).Nodup := H.nodup.map _ fun a b hab e => hab (ofString_inj e)
  have hzl : fn.params.length = zs.length := by
    unfold bindP at hz
    split at hz
    · have hlm : ∀ {α β : Type} (g : α → Option β) (l : List α) (us : List β), mapO g l = some us → l.length = us.length := by
        intro α β g l
        induction l with
        | nil => intro us h; simp [mapO] at h; subst h; rfl
        | cons x r ih =>
          intro us h
          simp only [mapO] at h
          split at h
          · rename_i b bs _ h2
            cases h
            simp [ih bs h2]
          · cases h
      have := hlm _ _ _ hz
      simpa using this
    · cases hz
  have hkw' : ∀ p ∈ (kn.map Str.ofString).zip ys, p.1 ∈ (fn.params.map Str.ofString).drop xs.length := fun p hp => by
    have hpl : ∀ (kn : List String) (kvs : List V) (ys : List Value), kvs.length = ys.length → ∀ p ∈ (kn.map Str.ofString).zip ys, ∃ q ∈ kn.zip kvs, p.1 = Str.ofString q.1 := by
      intro kn
      induction kn with
      | nil => intro _ _ _ p hp; simp at hp
      | cons k r ih =>
        intro kvs ys hl p hp
        cases ys with
        | nil => simp at hp
        | cons y ys =>
          cases kvs with
          | nil => simp at hl
          | cons v kvs =>
            simp only [List.map_cons, List.zip_cons_cons, List.mem_cons] at hp
            rcases hp with rfl | hp
            · exact ⟨(k, v), by simp, rfl⟩
            · obtain ⟨q, hq, e⟩ := ih kvs ys (by simpa using hl) p hp
              exact ⟨q, by simp [hq], e⟩
    obtain ⟨q, hq, e⟩ := hpl kn kvs ys hk.length p hp
    rw [e, ← List.map_drop, ← ha.length]
    exact List.mem_map.mpr ⟨_, hkw.1 q hq, rfl⟩
  have hknd : (((kn.map Str.ofString).zip ys).map (·.1)).Nodup := by
    have hzm : ∀ (kn : List String) (kvs : List V) (ys : List Value), kvs.length = ys.length → ((kn.map Str.ofString).zip ys).map (·.1) = ((kn.zip kvs).map (·.1)).map Str.ofString := by
      intro kn
      induction kn with
      | nil => intro _ _ _; simp
      | cons k r ih =>
        intro kvs ys hl
        cases ys with
        | nil => cases kvs with
          | nil => simp
          | cons => simp at hl
        | cons y ys =>
          cases kvs with
          | nil => simp at hl
          | cons v kvs => simp only [List.map_cons, List.zip_cons_cons]; rw [ih kvs ys (by simpa using hl)]
    rw [hzm kn kvs ys hk.length]
    exact hkw.2.map _ fun a b hab e => hab (ofString_inj e)
  have hbt := bindArgs_to (s := s) (fd := fd) H.p1 H.p2 H.p3 H.p4 H.names hnames (by rw [← (hds w).length, List.length_map]; exact H.dlen) hdef hkw' hknd hz
  refine codeAny_call_function (by have := hA.depth; unfold recursionLimit; omega) (S.kp _ _ (B.k _ _ hlook)) rfl H.coro H.gen H.body (codeRec_of X H.code) ?_
  refine hbt _ _ _ _ ?_
  rw [H.clos]
  refine wpAny_newFunctionEnv_cells H.kind (fun y hy => ?_) fun env he s₁ x => ?_
  · have : y.1 ∈ fn.params.map Str.ofString := (List.of_mem_zip hy).1
    obtain ⟨p, hp, e⟩ := List.mem_map.mp this
    rw [← e]
    rcases H.kinds p hp with q | q
    · exact .inl q
    · exact .inr ⟨q, cellsFrom_has _ _ _ q⟩
  obtain ⟨o, I, hfit, hod⟩ := frame_made H hcn han S hvz hzl he x
  have hsame : Same s s₁ := x.toInCall.same
  refine ⟨(B.frame I.M).lim I.S, codeAny_func ?_⟩
  have hA' : AOK (A.deeper env) n hd (c.frame s.heap.objs.size o (cellObjs s₁.heap env.cells)) (env :: envs) := by
    refine ⟨hA.handled, ?_, ?_, ?_, ⟨⟨I.M.frm, I.F.kind, hod⟩, hA.frs⟩⟩
    · show A.depth + 1 + 4 * n + 4 < 1000
      have := hA.depth; omega
    · show A.units + 3 + 100 * n + 200 < 9900
      have := hA.units; omega
    · show A.frames.map (env :: ·) = _
      rw [hA.frames]; rfl
  cases hx : execs P (run P n) hd fn.body (rhoOf vs) σ with
  | none => rw [hx] at hev; cases hev
  | some q =>
    obtain ⟨fl, ρ₁, σ₁⟩ := q
    rw [hx] at hev
    have hpx : ∀ b ∈ keysOfC (cellObjs s₁.heap env.cells), c.px b = none := fun b hb => by
      obtain ⟨ob, e⟩ := keys_look hb
      exact (I.M.cna b ob e).2.2.2.1
    refine wpAny_mono (hb hd c _ (rhoOf vs) σ env envs (A.deeper env) s₁ _ o _ fl ρ₁ σ₁ hx B I hfit hA') (fun f s₂ q => ?_) fun e s₂ q => ?_
    · obtain ⟨hs₂, w₂, o₂, cs₂, hk₂, hw₂, I₂, hf⟩ := q
      have Sb : SR prog ω K c (w₂.unmark w.na) σ₁ s₂.heap := I₂.S.leaveF (by rw [hk₂]; exact hpx) S.used
      cases hf with
      | next =>
        simp only [Option.some.injEq, Prod.mk.injEq] at hev
        obtain ⟨rfl, rfl⟩ := hev
        exact ⟨hsame.trans hs₂, w₂.unmark w.na, .none, rfl, hw₂.backs, Sb, .none⟩
      | ret hvr =>
        simp only [Option.some.injEq, Prod.mk.injEq] at hev
        obtain ⟨rfl, rfl⟩ := hev
        exact ⟨hsame.trans hs₂, w₂.unmark w.na, _, rfl, hw₂.backs, Sb, hvr.mono0 Wd.sub_unmark⟩
    · obtain ⟨z, w₁, o₁, cs₁, rfl, hk₁, hw₁, hF₁, M₁, hs₂, ea, C, a0, Bh, w₂, rfl, hC, hw₂, S₂, hfl, hg, hp, hl, hφ⟩ := q
      simp only [Option.some.injEq, Prod.mk.injEq] at hev
      obtain ⟨rfl, rfl⟩ := hev
      refine wpAny_leaves_onW hA'.frames I.M.frm hfl fun h' hfl' hup => ?_
      have Sb : SR prog ω K c (w₂.unmark w.na) σ₁ s₂.heap := S₂.leaveF (by rw [hk₁]; exact hpx) S.used
      have hp' : ∀ b o, c.px b = some o → Bh.get? b = some o := fun b ob e => hp b ob (by
        show (match cs₁.lookup b with | some z => some z | none => c.px b) = some ob
        cases z : cs₁.lookup b with
        | none => exact e
        | some y => rw [hpx b (by rw [← hk₁]; exact mem_keys z)] at e; cases e)
      have Sc : SR prog ω K c (w₂.unmark w.na) σ₁ h' := Sb.fly hg hp' hl hφ hfl'.1 hup hA.frs
      refine ⟨z, rfl, hsame.trans (hs₂.trans (.ofH _ _)), ea, C, a0, Bh, w₂.unmark w.na, rfl, hC, (hw₁.trans hw₂).backs, Sc, hfl', hg, hp', hl, fun i p e ob => ⟨fun q => ?_, fun q => ?_⟩⟩
      · obtain ⟨_, _, _, _, ⟨o1, e1⟩, _⟩ := S₂.out i p e
        have h1 := (hφ i p e o1).1 e1
        have h2 := hfl'.1 _ _ h1
        have q' : h'.get? p.1 = some ob := q
        rw [h2] at q'; cases q'; exact h1
      · obtain ⟨_, _, _, _, _, ⟨o1, e1⟩, _⟩ := S₂.out i p e
        have h1 := (hφ i p e o1).2 e1
        have h2 := hfl'.1 _ _ h1
        have q' : h'.get? p.2 = some ob := q
        rw [h2] at q'; cases q'; exact h1
end
end Lw
set_option autoImplicit false
namespace Lw
open PySem PySem.W PySem.Calls PyProof.Rows

section
variable {prog : Program} {ω : World} {K : Frag} {mg mb : Str → Option Value} {P : Prog} {cl : Cl} {n : Nat} {cx : Cxt}
  {hd : Bool} {c : Cx} {w w₁ : Wd} {ρ : Rho} {σ σ' : St} {env : Env} {envs : List Env} {A : Around} {s s₁ : Shared}

theorem QV.mono' {r : Res V} {v : Value} {s' : Shared} (hs : Same s s₁) (hw : w.Le w₁) (q : QV prog ω K c w₁ s₁ r σ' v s') : QV prog ω K c w s r σ' v s' := by
  obtain ⟨q1, w₂, a, q2, q3, q4, q5⟩ := q
  exact ⟨hs.trans q1, w₂, a, q2, hw.trans q3, q4, q5⟩

theorem sim_fcall {f : String} {es : List E} {xs : List Expr} {p pos : Pos} {a : Addr} (hg : cx.isGlob (Str.ofString f) = true) (hname : nsIn K mainGlobals (Str.ofString f) = some (some (.ref a))) (hkeep : keepIn K (.ref a) = true)
    (hc : SimC prog ω K mg mb cx.cls cx.attrs cl n "" f a) (ha : Sims prog ω K mg mb P cl n cx es xs) :
    Sim prog ω K mg mb P cl n cx (.fcall f es) (.Call (.Name (Str.ofString f) p) xs [] pos) := by
  have h : SimE prog ω K mg mb P cl n cx (.fcall f es) (.Call (.Name (Str.ofString f) p) xs [] pos) := by
    intro hd c w ρ σ env envs A s r' σ' hev B S F hn hA
    rw [e_fcall] at hev
    refine callName_sound (kn := []) (kes := []) (ks := []) (k := fun vs _ σ => cl hd "" f vs [] σ) (fun hQ => glob_name B S F hn hg hname hQ) (keeps_in hkeep) ha .nil (by simpa only [bindM_evs_nil] using hev) B S F hn hA ?_
    intro vs us xv yv σ₁ w₁ s₁ hk hs hw S₁ hv hu
    refine wpAny_call (codeAny_mono (hc hd c w₁ σ₁ envs A s₁ vs [] [] xv [] r' σ' hk B hn.cls.symm hn.attrs.symm S₁ hA.toC hv .nil) fun rr s' q => ?_)
    rcases rr with e | (v | _ | _ | _) <;> first | exact q.elim | skip
    · exact QX.mono hs hw q
    · exact QV.mono' hs hw q
  exact ⟨h, h.simT fun _ _ => rfl⟩

theorem methV_inv {o : V} {x : Value} {m cc : String} (S : SR prog ω K c w σ s.heap) (ho : VR K w o x) (hm : methV P σ o m = some cc) :
    ∃ (i : Nat) (p : Addr × Addr) (C : Addr) (es : List DictEntry) (k : Nat) (fs : List (String × V)), o = .ref i ∧ x = .ref p.1 ∧ cc ∈ c.cn ∧ clsAt K cc = some C ∧ s.heap.get? p.1 = some (instObj C p.2) ∧ s.heap.get? p.2 = some (dictOf es k) ∧ FsR ω K w fs es ∧ lk fs m = none ∧ ∃ fn, P.fns cc m = some fn := by
  unfold methV at hm
  cases ho with
  | @ref i p hp =>
    dsimp only at hm
    split at hm
    · rename_i cn fs hg
      obtain ⟨q, hq, r⟩ := S.obj _ _ hg
      rw [hp] at hq; cases hq
      obtain ⟨_, hcn, C, es, k, hC, h1, h2, hfs, _⟩ := r
      split at hm
      · rename_i hl
        cases hm
        simp only [Bool.and_eq_true, Option.isNone_iff_eq_none] at hl
        exact ⟨i, p, C, es, k, fs, rfl, rfl, hcn, hC, h1, h2, hfs, hl.1, Option.isSome_iff_exists.mp hl.2⟩
      · cases hm
    · cases hm
  | _ => simp at hm

noncomputable def MethAt (K : Frag) (cc m : String) (a : Addr) : Prop := ∃ C, clsAt K cc = some C ∧ findIn K (.ref C) (Str.ofString m) = some (some (.ref a)) ∧ typeIn K (.ref a) = some (.type "function") ∧ keepIn K (.ref a) = true

theorem sim_mcall {o : E} {m : String} {es kes : List E} {kn : List String} {oe : Expr} {xs : List Expr} {ks : List Keyword} {ap pos : Pos} (hsup : notSuper oe = true) (hpos : (ap.endLine == pos.line) = true) (hl : xs.length < 10) (hl2 : ks.length < 5)
    (hst : ∀ cc fn, cc ∈ cx.cls → P.fns cc m = some fn → ∃ a, MethAt K cc m a ∧ SimC prog ω K mg mb cx.cls cx.attrs cl n cc m a)
    (ho : Sim prog ω K mg mb P cl n cx o oe) (ha : Sims prog ω K mg mb P cl n cx es xs) (hks : SimKs prog ω K mg mb P cl n cx kn kes ks) :
    Sim prog ω K mg mb P cl n cx (.mcall o m es kn kes) (.Call (.Attribute oe (Str.ofString m) ap) xs ks pos) := by
  have h : SimE prog ω K mg mb P cl n cx (.mcall o m es kn kes) (.Call (.Attribute oe (Str.ofString m) ap) xs ks pos) := by
    intro hd c w ρ σ env envs A s r' σ' hev B S F hn hA
    rw [e_mcall] at hev
    refine wpAny_Call_Attr hsup hpos ha hks hl hl2 (ho.v.bind hev B S F hn hA fun x xv σ₁ w₁ s₁ hk hs hw S₁ hx pl => ?_)
    split at hk
    rotate_left
    · cases hk
    rename_i cc hm
    obtain ⟨i, p, C, des, k, fs, rfl, rfl, hcc, hC, h1, h2, hfs, hlk, fn, hfn⟩ := methV_inv S₁ hx hm
    obtain ⟨a, ⟨C', hC', hf, ht, hkp⟩, hsim⟩ := hst cc fn (by rw [hn.cls]; exact hcc) hfn
    rw [hC] at hC'; cases hC'
    obtain ⟨C', hC', hok⟩ := B.cls _ hcc
    rw [hC] at hC'; cases hC'
    obtain ⟨g1, g2, g3, g4, g5, g6, g7⟩ := clsOk_parts hok
    have I : InstAt s₁.heap p.1 (instObj C p.2) C (some (dictOf des k)) := ⟨h1, rfl, rfl, h2⟩
    refine method_fn (B.kin S₁) I g1 g2 hf ht ?_ ?_
    · unfold shadowIn
      dsimp only
      rw [(fs_look (k := k) hfs m).2 hlk]; rfl
    · refine callWith_sound (first := [.ref p.1]) (k := fun vs us σ => cl hd cc m (.ref i :: vs) (kn.zip us) σ) (keeps_in hkp) ha hks hk B S₁ (F.mono hw) hn hA hs hw ?_
      intro vs us yv zv σ₂ w₂ s₂ hk hs₂ hw₂ hw12 S₂ hv hu
      refine wpAny_call (codeAny_mono (hsim hd c w₂ σ₂ envs A s₂ (.ref i :: vs) us kn (.ref p.1 :: yv) zv r' σ' hk B hn.cls.symm hn.attrs.symm S₂ hA.toC (.cons (hx.mono hw12) hv) hu) fun rr s' q => ?_)
      rcases rr with e | (v | _ | _ | _) <;> first | exact q.elim | skip
      · exact QX.mono hs₂ hw₂ q
      · exact QV.mono' hs₂ hw₂ q
  exact ⟨h, h.simT fun _ _ => rfl⟩

theorem size1_sys {h : Heap} (S : SR prog ω K c w σ h) (B : Base K c mg mb) : h.objs.size + 1 ≠ sysModules := by
  obtain ⟨o, e, _⟩ := B.g
  have h1 : mainGlobals < h.objs.size := Heap.lt_size (S.kp _ _ e)
  intro q
  have h2 : mainGlobals < sysModules := by rw [← q]; exact Nat.lt_succ_of_lt h1
  revert h2; decide

theorem AOK.made {C : Addr} {vs : List Value} {kw : List (Str × Value)} (h : AOK A n hd c envs) : AOC (A.under (.builtin "type.__call__" ⟨.ref C :: vs, kw⟩)) n hd c envs := by
  have e1 : Code.weight (.builtin "type.__call__" ⟨.ref C :: vs, kw⟩) = 1 := rfl
  have e2 : Code.cUnits (.builtin "type.__call__" ⟨.ref C :: vs, kw⟩) = 1 := rfl
  have e3 : Code.envs (.builtin "type.__call__" ⟨.ref C :: vs, kw⟩) = [] := rfl
  refine ⟨h.handled, ?_, ?_, ?_, h.frs⟩
  · show A.depth + Code.weight _ + 4 * n + 2 < 1000
    have := h.depth; rw [e1]; omega
  · show A.units + Code.cUnits _ + 100 * n + 150 < 9900
    have := h.units; rw [e2]; omega
  · have : (A.under (.builtin "type.__call__" ⟨.ref C :: vs, kw⟩)).frames = pushEnvs (Code.envs (.builtin "type.__call__" ⟨.ref C :: vs, kw⟩)) A.frames := rfl
    rw [this, e3]; exact h.frames

theorem sim_new {k : String} {es kes : List E} {kn : List String} {xs : List Expr} {ks : List Keyword} {p pos : Pos} {C a : Addr} (hg : cx.isGlob (Str.ofString k) = true) (hcl : k ∈ cx.cls) (hC : clsAt K k = some C) (hkeep : keepIn K (.ref C) = true)
    (hi : MethAt K k "__init__" a) (hsim : SimC prog ω K mg mb cx.cls cx.attrs cl n k "__init__" a)
    (ha : Sims prog ω K mg mb P cl n cx es xs) (hks : SimKs prog ω K mg mb P cl n cx kn kes ks) :
    Sim prog ω K mg mb P cl n cx (.new k es kn kes) (.Call (.Name (Str.ofString k) p) xs ks pos) := by
  have hname : nsIn K mainGlobals (Str.ofString k) = some (some (.ref C)) := by
    unfold clsAt at hC
    split at hC
    · rename_i b e; cases hC; exact e
    · cases hC
  have h : SimE prog ω K mg mb P cl n cx (.new k es kn kes) (.Call (.Name (Str.ofString k) p) xs ks pos) := by
    intro hd c w ρ σ env envs A s r' σ' hev B S F hn hA
    rw [e_new] at hev
    refine callName_sound (kn := kn) (k := fun vs us σ => bindM (cl hd k "__init__" (.ref σ.n :: vs) (kn.zip us) (σ.new (.inst k []))) fun r σ' => match r with | .none => some (.ok (.ref σ.n), σ') | _ => none)
      (fun hQ => glob_name B S F hn hg hname hQ) (keeps_in hkeep) ha hks hev B S F hn hA ?_
    intro vs us xv yv σ₁ w₁ s₁ hk hs hw S₁ hv hu
    have hcc : k ∈ c.cn := by rw [← hn.cls]; exact hcl
    obtain ⟨C', hC', hok⟩ := B.cls _ hcc
    rw [hC] at hC'; cases hC'
    obtain ⟨g1, g2, g3, g4, g5, g6, g7⟩ := clsOk_parts hok
    obtain ⟨C', hC', hf, ht, hkp⟩ := hi
    rw [hC] at hC'; cases hC'
    have X := B.kin S₁
    have hn1 : s₁.heap.get? (s₁.heap.objs.size + 1) = none := get_above (Nat.le_succ _)
    have hn2 : s₁.heap.get? s₁.heap.objs.size = none := get_size _
    have keep : ∀ b o, s₁.heap.get? b = some o → ((s₁.heap.push emptyDict).push (instObj C s₁.heap.objs.size)).get? b = some o := fun b o e => Heap.get?_push_of_some _ (Heap.get?_push_of_some _ e)
    have e1 : ((s₁.heap.push emptyDict).push (instObj C s₁.heap.objs.size)).get? (s₁.heap.objs.size + 1) = some (instObj C s₁.heap.objs.size) := by
      have := Heap.get?_push_size (s₁.heap.push emptyDict) (o := instObj C s₁.heap.objs.size) rfl
      rwa [Heap.size_push] at this
    have e2 : ((s₁.heap.push emptyDict).push (instObj C s₁.heap.objs.size)).get? s₁.heap.objs.size = some emptyDict := Heap.get?_push_of_some _ (Heap.get?_push_size _ rfl)
    have S₂ : SR prog ω K c (w₁.more (s₁.heap.objs.size + 1, s₁.heap.objs.size)) (σ₁.new (.inst k [])) ((s₁.heap.push emptyDict).push (instObj C s₁.heap.objs.size)) :=
      S₁.alloc hn1 hn2 keep (size1_sys S₁ B) ⟨_, e1⟩ ⟨_, e2⟩ ⟨Nat.succ_ne_self _, hcc, C, [], 0, hC, e1, e2, .nil, S₁.fresh_lk hn1, S₁.fresh_lk hn2⟩
    have hself : VR K (w₁.more (s₁.heap.objs.size + 1, s₁.heap.objs.size)) (.ref σ₁.n) (.ref (s₁.heap.objs.size + 1)) := by
      rw [S₁.len]
      exact VR.ref (p := (s₁.heap.objs.size + 1, s₁.heap.objs.size)) Wd.more_get
    have hle := Wd.le_more (w := w₁) (p := (s₁.heap.objs.size + 1, s₁.heap.objs.size))
    refine wpAny_call ?_
    have key : ∀ r₁ σ₂, cl hd k "__init__" (.ref σ₁.n :: vs) (kn.zip us) (σ₁.new (.inst k [])) = some (r₁, σ₂) →
        codeAny (model prog ω) (A.under (.builtin "type.__call__" ⟨.ref C :: xv, (kn.map Str.ofString).zip yv⟩)) (.call (.ref a) ⟨.ref (s₁.heap.objs.size + 1) :: xv, (kn.map Str.ofString).zip yv⟩)
          (RC prog ω K c (w₁.more (s₁.heap.objs.size + 1, s₁.heap.objs.size)) envs { s₁ with heap := (s₁.heap.push emptyDict).push (instObj C s₁.heap.objs.size) } r₁ σ₂) { s₁ with heap := (s₁.heap.push emptyDict).push (instObj C s₁.heap.objs.size) } := fun r₁ σ₂ h1 =>
      hsim hd c _ _ envs _ _ (.ref σ₁.n :: vs) us kn (.ref (s₁.heap.objs.size + 1) :: xv) yv r₁ σ₂ h1 B hn.cls.symm hn.attrs.symm S₂ hA.made (.cons hself (hv.mono hle)) (hu.mono hle)
    have hs2 : Same s { s₁ with heap := (s₁.heap.push emptyDict).push (instObj C s₁.heap.objs.size) } := hs.trans (.ofH _ _)
    refine make_core (makes_of X g6) (looks_findIn X hf) (fun self => bind_fn X self ht) (.inl rfl) ?_
    cases h1 : cl hd k "__init__" (.ref σ₁.n :: vs) (kn.zip us) (σ₁.new (.inst k [])) with
    | none => rw [h1] at hk; cases hk
    | some q =>
      obtain ⟨r₁, σ₂⟩ := q
      rw [h1] at hk
      refine codeAny_mono (key r₁ σ₂ h1) fun rr s' q => ?_
      cases r₁ with
      | exc y =>
        simp only [bindM, Option.some.injEq, Prod.mk.injEq] at hk
        obtain ⟨rfl, rfl⟩ := hk
        rcases rr with e | (v | _ | _ | _) <;> first | exact q.elim | skip
        · obtain ⟨z, q, h⟩ := q; cases q; exact ⟨_, rfl, h.mono hs2 (hw.trans hle)⟩
        · obtain ⟨_, _, _, q, _⟩ := q; cases q
      | ok v =>
        cases v <;> simp only [bindM, reduceCtorEq, Option.some.injEq, Prod.mk.injEq] at hk
        obtain ⟨rfl, rfl⟩ := hk
        rcases rr with e | (v | _ | _ | _) <;> first | exact q.elim | skip
        · obtain ⟨z, q, h⟩ := q; cases q
        · obtain ⟨hs', w₂, a', q, hw₂, S', hv'⟩ := q
          cases q
          cases hv'
          exact ⟨rfl, hs2.trans hs', w₂, _, rfl, (hw.trans hle).trans hw₂, S', hself.mono hw₂⟩
  exact ⟨h, h.simT fun _ _ => rfl⟩
end
end Lw
set_option autoImplicit false
namespace Lw
open PySem PySem.W PySem.Calls PyProof.Rows

structure Stc (prog : Program) (ω : World) (K : Frag) (mg mb : Str → Option Value) (P : Prog) (cl : Cl) (n : Nat) (cx : Cxt) : Prop where
  fcall : ∀ f, f ∈ cx.fns → ∃ a, nsIn K mainGlobals (Str.ofString f) = some (some (.ref a)) ∧ keepIn K (.ref a) = true ∧ SimC prog ω K mg mb cx.cls cx.attrs cl n "" f a
  new : ∀ k, k ∈ cx.cls → ∃ C a, clsAt K k = some C ∧ keepIn K (.ref C) = true ∧ MethAt K k "__init__" a ∧ SimC prog ω K mg mb cx.cls cx.attrs cl n k "__init__" a
  meth : ∀ cc m fn, cc ∈ cx.cls → P.fns cc m = some fn → ∃ a, MethAt K cc m a ∧ SimC prog ω K mg mb cx.cls cx.attrs cl n cc m a
  exc : ∀ k, k ∈ cx.excs → ∃ C, clsAt K k = some C
  bfn : ∀ x, x ∈ cx.bifs → nsIn K mainGlobals (Str.ofString x) = some none
  gi : ∀ x i, (x, i) ∈ cx.gis → ∃ t, nsIn K mainGlobals (Str.ofString x) = some (some (.int i t))

theorem okKeys_R : ∀ {ks : List Str} {es : List (Option Expr)}, okKeys ks es = true → KeysR ks es := by
  intro ks
  induction ks with
  | nil =>
    intro es h
    cases es with
    | nil => exact .nil
    | cons _ _ => exact (Bool.false_ne_true h).elim
  | cons k ks ih =>
    intro es h
    cases es with
    | nil => exact (Bool.false_ne_true h).elim
    | cons e r =>
      cases e with
      | none => exact (Bool.false_ne_true h).elim
      | some e =>
        cases e with
        | Constant c j p =>
          cases c with
          | str s =>
            have h : (s == k && okKeys ks r) = true := h
            simp only [Bool.and_eq_true, beq_iff_eq] at h
            obtain ⟨rfl, h'⟩ := h
            exact .cons (ih h')
          | _ => exact (Bool.false_ne_true h).elim
        | _ => exact (Bool.false_ne_true h).elim

section
variable {prog : Program} {ω : World} {K : Frag} {mg mb : Str → Option Value} {P : Prog} {cl : Cl} {n : Nat}

theorem Stc.inner {cx : Cxt} (T : Stc prog ω K mg mb P cl n cx) (s : Scope) (x : Str) (k : Nat) : Stc prog ω K mg mb P cl n (cx.inner s x k) := ⟨T.fcall, T.new, T.meth, T.exc, T.bfn, T.gi⟩

theorem lookup_mem_nodup {β : Type} : ∀ {l : List (Str × β)} {z : Str × β}, (l.map (·.1)).Nodup → z ∈ l → l.lookup z.1 = some z.2
  | l, z, hn, hz => lookup_of_mem (n := z.1) (a := z.2) hn hz

theorem compOk_R {cx : Cxt} {s : Scope} {x : Str} {k : Nat} (h : cx.compOk s x k = true) : CompOK cx s x k := by
  unfold Cxt.compOk at h
  simp only [Bool.and_eq_true, beq_iff_eq, Bool.not_eq_true', decide_eq_true_eq, List.all_eq_true, bne_iff_ne, Bool.or_eq_true] at h
  obtain ⟨⟨⟨⟨⟨⟨⟨⟨⟨h1, h2⟩, h3⟩, h4⟩, h5⟩, h6⟩, h7⟩, h8⟩, h9⟩, h10⟩ := h
  refine ⟨h2, h6, fun p hp => h8 p hp, fun z hz hf => ?_, fun z hz hc => ?_, fun z hz hl => ?_, fun y hy => mem_of_lookup hy, trivial⟩
  · have := h9 z hz
    rcases this with (⟨q, _⟩ | ⟨_, q⟩) | q
    · rw [hf] at q; cases q
    · exact q
    · rw [hf] at q; cases q
  · have := h9 z hz
    rcases this with (⟨q, _⟩ | ⟨q, _⟩) | q <;> rw [hc] at q <;> cases q
  · rw [lookup_mem_nodup h10 hz, hl]

theorem Stc.tyname {cx : Cxt} {t : Ty} {p2 : Pos} (T : Stc prog ω K mg mb P cl n cx) (hg : cx.isGlob (Str.ofString (tyName t)) = true)
    (ht : tyOk cx t = true) :
    ∃ tv, tyVal K t = some tv ∧ ∀ (c : Cx) (w : Wd) (ρ : Rho) (σ : St) (env : Env) (A : Around) (s : Shared) (Ex Q : Value → Shared → Prop), Base K c mg mb → SR prog ω K c w σ s.heap → FR K c w env cx.vis ρ → Fits cx c env → Q tv s → wpAny (model prog ω) A (eval (.Name (Str.ofString (tyName t)) p2) env) Q Ex s := by
  have own : ∀ k C, clsAt K k = some C → nsIn K mainGlobals (Str.ofString k) = some (some (.ref C)) := fun k C hC => by
    unfold clsAt at hC
    split at hC
    · rename_i b e; cases hC; exact e
    · cases hC
  unfold tyOk at ht
  cases t with
  | own k =>
    have : ∃ C, clsAt K k = some C := by
      simp only [Bool.or_eq_true, List.contains_iff_mem] at ht
      rcases ht with q | q
      · obtain ⟨C, _, e, _⟩ := T.new k q; exact ⟨C, e⟩
      · exact T.exc k q
    obtain ⟨C, hC⟩ := this
    refine ⟨.ref C, by simp [tyVal, hC], fun c w ρ σ env A s Ex Q B S F hn hQ => glob_name B S F hn hg (own k C hC) hQ⟩
  | int => exact ⟨_, rfl, fun c w ρ σ env A s Ex Q B S F hn hQ => glob_bi B S F hn hg (T.bfn _ (by simpa using ht)) (by kernel_rfl) (by decide) hQ⟩
  | bool => exact ⟨_, rfl, fun c w ρ σ env A s Ex Q B S F hn hQ => glob_bi B S F hn hg (T.bfn _ (by simpa using ht)) (by kernel_rfl) (by decide) hQ⟩
  | str => exact ⟨_, rfl, fun c w ρ σ env A s Ex Q B S F hn hQ => glob_bi B S F hn hg (T.bfn _ (by simpa using ht)) (by kernel_rfl) (by decide) hQ⟩
  | tuple => exact ⟨_, rfl, fun c w ρ σ env A s Ex Q B S F hn hQ => glob_bi B S F hn hg (T.bfn _ (by simpa using ht)) (by kernel_rfl) (by decide) hQ⟩
  | list => exact ⟨_, rfl, fun c w ρ σ env A s Ex Q B S F hn hQ => glob_bi B S F hn hg (T.bfn _ (by simpa using ht)) (by kernel_rfl) (by decide) hQ⟩
  | valueError => exact ⟨_, rfl, fun c w ρ σ env A s Ex Q B S F hn hQ => glob_bi B S F hn hg (T.bfn _ (by simpa using ht)) (by kernel_rfl) (by decide) hQ⟩

theorem isCNone_eq {e : E} (h : isCNone e = true) : e = .cNone := by
  cases e with
  | cNone => rfl
  | _ => exact (Bool.false_ne_true h).elim
theorem isCTrue_eq {e : E} (h : isCTrue e = true) : e = .cBool true := by
  cases e with
  | cBool b => cases b with
    | true => rfl
    | false => exact (Bool.false_ne_true h).elim
  | _ => exact (Bool.false_ne_true h).elim

theorem okEs_len : ∀ {es : List E} {cx : Cxt} {xs : List Expr}, okEs cx es xs = true → es.length = xs.length
  | [], cx, xs, h => by cases xs <;> simp [okEs] at h ⊢
  | e :: es, cx, xs, h => by
    cases xs with
    | nil => simp [okEs] at h
    | cons x xs =>
      simp only [okEs, Bool.and_eq_true] at h
      simp [okEs_len h.2]
end
end Lw
set_option autoImplicit false
namespace Lw
open PySem PySem.W PySem.Calls PyProof.Rows

section
variable {prog : Program} {ω : World} {K : Frag} {mg mb : Str → Option Value} {P : Prog} {cl : Cl} {n : Nat}

set_option maxHeartbeats 4000000 in
mutual
theorem okE_sim : ∀ (e : E) (cx : Cxt) (x : Expr), Stc prog ω K mg mb P cl n cx → okE cx e x = true → Sim prog ω K mg mb P cl n cx e x
  | .cNone, cx, x, T, h => by
    cases x with
    | Constant k j p => cases k <;> first | exact sim_cNone | (exact (Bool.false_ne_true h).elim)
    | _ => exact (Bool.false_ne_true h).elim
  | .cBool b, cx, x, T, h => by
    cases x with
    | Constant k j p =>
      cases k with
      | bool b' =>
        have h : (b == b') = true := h
        simp only [beq_iff_eq] at h
        subst h; exact sim_cBool
      | _ => exact (Bool.false_ne_true h).elim
    | _ => exact (Bool.false_ne_true h).elim
  | .cInt b, cx, x, T, h => by
    cases x with
    | Constant k j p =>
      cases k with
      | int b' =>
        have h : (b == b') = true := h
        simp only [beq_iff_eq] at h
        subst h; exact sim_cInt
      | _ => exact (Bool.false_ne_true h).elim
    | _ => exact (Bool.false_ne_true h).elim
  | .cStr b, cx, x, T, h => by
    cases x with
    | Constant k j p =>
      cases k with
      | str b' =>
        have h : (b == b' && sOk b) = true := h
        simp only [Bool.and_eq_true, beq_iff_eq] at h
        obtain ⟨rfl, h'⟩ := h
        exact sim_cStr h'
      | _ => exact (Bool.false_ne_true h).elim
    | _ => exact (Bool.false_ne_true h).elim
  | .var k, cx, x, T, h => by
    cases x with
    | Name y p =>
      have h : (cx.vis.lookup y == some k && cx.isLocal y && !(y == ("__debug__" : Str)) && !(y == ("__classdict__" : Str))) = true := h
      simp only [Bool.and_eq_true, beq_iff_eq, Bool.not_eq_true'] at h
      obtain ⟨⟨⟨h1, h2⟩, h3⟩, h4⟩ := h
      exact sim_var h1 h2 h3 h4
    | _ => exact (Bool.false_ne_true h).elim
  | .bin op a b, cx, x, T, h => by
    cases x with
    | BinOp l o r p =>
      have h : (o == bopOf op && okE cx a l && okE cx b r) = true := h
      simp only [Bool.and_eq_true, beq_iff_eq] at h
      obtain ⟨⟨rfl, h1⟩, h2⟩ := h
      exact sim_bin (okE_sim a cx l T h1) (okE_sim b cx r T h2)
    | _ => exact (Bool.false_ne_true h).elim
  | .cmp op a b, cx, x, T, h => by
    cases x with
    | Compare l os rs p =>
      rcases os with _ | ⟨o, _ | ⟨o2, os⟩⟩ <;> rcases rs with _ | ⟨r, _ | ⟨r2, rs⟩⟩ <;> first | (exact (Bool.false_ne_true h).elim) | skip
      have h : (o == copOf op && notSetE r && okE cx a l && okE cx b r) = true := h
      simp only [Bool.and_eq_true, beq_iff_eq] at h
      obtain ⟨⟨⟨rfl, h0⟩, h1⟩, h2⟩ := h
      exact sim_cmp h0 (okE_sim a cx l T h1) (okE_sim b cx r T h2)
    | _ => exact (Bool.false_ne_true h).elim
  | .bool isAnd es, cx, x, T, h => by
    cases x with
    | BoolOp op vs p =>
      have h : ((op == (if isAnd then .And else .Or)) && !es.isEmpty && okEs cx es vs) = true := h
      simp only [Bool.and_eq_true, beq_iff_eq, Bool.not_eq_true', List.isEmpty_eq_false_iff] at h
      obtain ⟨⟨h0, h1⟩, h2⟩ := h
      have : op = opB isAnd := by rw [h0]; rfl
      subst this
      exact sim_bool (okEs_sim es cx vs T h2) h1
    | _ => exact (Bool.false_ne_true h).elim
  | .not a, cx, x, T, h => by
    cases x with
    | UnaryOp o l p =>
      cases o <;> first | (exact (Bool.false_ne_true h).elim) | skip
      have h : okE cx a l = true := h
      exact sim_not (okE_sim a cx l T h)
    | _ => exact (Bool.false_ne_true h).elim
  | .neg a, cx, x, T, h => by
    cases x with
    | UnaryOp o l p =>
      cases o <;> first | (exact (Bool.false_ne_true h).elim) | skip
      have h : okE cx a l = true := h
      exact sim_neg (okE_sim a cx l T h)
    | _ => exact (Bool.false_ne_true h).elim
  | .fcall f args, cx, x, T, h => by
    cases x with
    | Call fe as ks p =>
      cases fe with
      | Name y q =>
        cases ks with
        | nil =>
          have h : (y == Str.ofString f && cx.isGlob y && cx.fns.contains f && decide (as.length < 10) && okEs cx args as) = true := h
          simp only [Bool.and_eq_true, beq_iff_eq, List.contains_iff_mem] at h
          obtain ⟨⟨⟨⟨rfl, h1⟩, h2⟩, h3⟩, h4⟩ := h
          obtain ⟨a, e1, e2, e3⟩ := T.fcall f h2
          exact sim_fcall h1 e1 e2 e3 (okEs_sim args cx as T h4)
        | cons _ _ => exact (Bool.false_ne_true h).elim
      | _ => exact (Bool.false_ne_true h).elim
    | _ => exact (Bool.false_ne_true h).elim
  | .new k args kwn kwe, cx, x, T, h => by
    cases x with
    | Call fe as ks p =>
      cases fe with
      | Name y q =>
        have h : (y == Str.ofString k && cx.isGlob y && cx.cls.contains k && decide (as.length < 10) && decide (ks.length < 5) && okEs cx args as && okKs cx kwn kwe ks) = true := h
        simp only [Bool.and_eq_true, beq_iff_eq, List.contains_iff_mem] at h
        obtain ⟨⟨⟨⟨⟨⟨rfl, h1⟩, h2⟩, h3⟩, h4⟩, h5⟩, h6⟩ := h
        obtain ⟨C, a, e1, e2, e3, e4⟩ := T.new k h2
        exact sim_new h1 h2 e1 e2 e3 e4 (okEs_sim args cx as T h5) (okKs_sim kwe kwn cx ks T h6)
      | _ => exact (Bool.false_ne_true h).elim
    | _ => exact (Bool.false_ne_true h).elim
  | .mcall o m args kwn kwe, cx, x, T, h => by
    cases x with
    | Call fe as ks p =>
      cases fe with
      | Attribute oe y ap =>
        have h : (y == Str.ofString m && notSuper oe && ap.endLine == p.line && decide (as.length < 10) && decide (ks.length < 5) && okE cx o oe && okEs cx args as && okKs cx kwn kwe ks) = true := h
        simp only [Bool.and_eq_true, beq_iff_eq, decide_eq_true_eq] at h
        obtain ⟨⟨⟨⟨⟨⟨⟨rfl, h1⟩, h2⟩, h3⟩, h4⟩, h5⟩, h6⟩, h7⟩ := h
        exact sim_mcall h1 (by simpa using h2) h3 h4 (fun cc fn hcc hfn => T.meth cc m fn hcc hfn) (okE_sim o cx oe T h5) (okEs_sim args cx as T h6) (okKs_sim kwe kwn cx ks T h7)
      | _ => exact (Bool.false_ne_true h).elim
    | _ => exact (Bool.false_ne_true h).elim
  | .bcall f args, cx, x, T, h => by
    cases x with
    | Call fe as ks p =>
      cases fe with
      | Name y q =>
        cases ks with
        | nil =>
          have h : (y == Str.ofString (bfName f) && cx.isGlob y && cx.bifs.contains (bfName f) && decide (as.length < 10) && okEs cx args as) = true := h
          simp only [Bool.and_eq_true, beq_iff_eq, List.contains_iff_mem] at h
          obtain ⟨⟨⟨⟨rfl, h1⟩, h2⟩, h3⟩, h4⟩ := h
          exact sim_bcall h1 (T.bfn _ h2) (okEs_sim args cx as T h4)
        | cons _ _ => exact (Bool.false_ne_true h).elim
      | _ => exact (Bool.false_ne_true h).elim
    | _ => exact (Bool.false_ne_true h).elim
  | .bmeth m o args, cx, x, T, h => by
    cases x with
    | Call fe as ks p =>
      cases fe with
      | Attribute oe y ap =>
        cases ks with
        | nil =>
          have h : (y == Str.ofString (bmName m) && notSuper oe && ap.endLine == p.line && decide (as.length < 10) && okE cx o oe && okEs cx args as) = true := h
          simp only [Bool.and_eq_true, beq_iff_eq, decide_eq_true_eq] at h
          obtain ⟨⟨⟨⟨⟨rfl, h1⟩, h2⟩, h3⟩, h4⟩, h5⟩ := h
          exact sim_bmeth h1 (by simpa using h2) h3 (okE_sim o cx oe T h4) (okEs_sim args cx as T h5)
        | cons _ _ => exact (Bool.false_ne_true h).elim
      | _ => exact (Bool.false_ne_true h).elim
    | _ => exact (Bool.false_ne_true h).elim
  | .isinst a t, cx, x, T, h => by
    cases x with
    | Call fe as ks p =>
      cases fe with
      | Name y q =>
        rcases as with _ | ⟨x1, as⟩ <;> first | (exact (Bool.false_ne_true h).elim) | skip
        rcases as with _ | ⟨x2, as⟩ <;> first | (exact (Bool.false_ne_true h).elim) | skip
        cases x2 with
        | Name z q2 =>
          rcases as with _ | ⟨x3, as⟩ <;> first | (exact (Bool.false_ne_true h).elim) | skip
          rcases ks with _ | ⟨k, ks⟩ <;> first | (exact (Bool.false_ne_true h).elim) | skip
          have h : (y == ("isinstance" : Str) && cx.isGlob y && cx.bifs.contains "isinstance" && notStar x1 && z == Str.ofString (tyName t) && cx.isGlob z && tyOk cx t && okE cx a x1) = true := h
          simp only [Bool.and_eq_true, beq_iff_eq] at h
          obtain ⟨⟨⟨⟨⟨⟨⟨rfl, h1⟩, h2⟩, h3⟩, rfl⟩, h5⟩, h6⟩, h7⟩ := h
          obtain ⟨tv, e1, e2⟩ := T.tyname (t := t) (p2 := q2) h5 h6
          exact sim_isinst h1 (T.bfn "isinstance" (List.contains_iff_mem.mp h2)) h3 e1 e2 (okE_sim a cx x1 T h7)
        | _ => exact (Bool.false_ne_true h).elim
      | _ => exact (Bool.false_ne_true h).elim
    | _ => exact (Bool.false_ne_true h).elim
  | .attr o a, cx, x, T, h => by
    cases x with
    | Attribute oe y p =>
      have h : (y == Str.ofString a && cx.attrs.contains a && notSuper oe && okE cx o oe) = true := h
      simp only [Bool.and_eq_true, beq_iff_eq] at h
      obtain ⟨⟨⟨rfl, h1⟩, h2⟩, h3⟩ := h
      exact sim_attr h2 h1 (okE_sim o cx oe T h3)
    | _ => exact (Bool.false_ne_true h).elim
  | .idx o i, cx, x, T, h => by
    cases x with
    | Subscript oe ie p =>
      have h : (notSliceE ie && okE cx o oe && okE cx i ie) = true := h
      simp only [Bool.and_eq_true] at h
      obtain ⟨⟨h1, h2⟩, h3⟩ := h
      exact sim_idx h1 (okE_sim o cx oe T h2) (okE_sim i cx ie T h3)
    | _ => exact (Bool.false_ne_true h).elim
  | .slice mt o lo hi, cx, x, T, h => by
    cases x with
    | Subscript oe ie p =>
      cases ie with
      | Slice l u st q =>
        cases st with
        | none =>
          have key : ∀ {hlo hhi : Bool}, (okE cx o oe && hlo && hhi) = true → okE cx o oe = true ∧ hlo = true ∧ hhi = true := fun h => by
            simp only [Bool.and_eq_true] at h
            exact ⟨h.1.1, h.1.2, h.2⟩
          cases l with
          | none =>
            cases u with
            | none =>
              obtain ⟨h1, h2, h3⟩ := key (hlo := isCNone lo) (hhi := isCNone hi) h
              exact sim_slice (okE_sim o cx oe T h1) (.inl ⟨rfl, isCNone_eq h2⟩) (.inl ⟨rfl, isCNone_eq h3⟩)
            | some e =>
              obtain ⟨h1, h2, h3⟩ := key (hlo := isCNone lo) (hhi := okE cx hi e) h
              exact sim_slice (okE_sim o cx oe T h1) (.inl ⟨rfl, isCNone_eq h2⟩) (.inr ⟨e, rfl, okE_sim hi cx e T h3⟩)
          | some e' =>
            cases u with
            | none =>
              obtain ⟨h1, h2, h3⟩ := key (hlo := okE cx lo e') (hhi := isCNone hi) h
              exact sim_slice (okE_sim o cx oe T h1) (.inr ⟨e', rfl, okE_sim lo cx e' T h2⟩) (.inl ⟨rfl, isCNone_eq h3⟩)
            | some e =>
              obtain ⟨h1, h2, h3⟩ := key (hlo := okE cx lo e') (hhi := okE cx hi e) h
              exact sim_slice (okE_sim o cx oe T h1) (.inr ⟨e', rfl, okE_sim lo cx e' T h2⟩) (.inr ⟨e, rfl, okE_sim hi cx e T h3⟩)
        | some _ => exact (Bool.false_ne_true h).elim
      | _ => exact (Bool.false_ne_true h).elim
    | _ => exact (Bool.false_ne_true h).elim
  | .list mt es, cx, x, T, h => by
    cases x with
    | List vs p =>
      have h : okEs cx es vs = true := h
      exact sim_list (okEs_sim es cx vs T h)
    | _ => exact (Bool.false_ne_true h).elim
  | .tup es, cx, x, T, h => by
    cases x with
    | Tuple vs k p =>
      have h : okEs cx es vs = true := h
      exact sim_tup (okEs_sim es cx vs T h)
    | _ => exact (Bool.false_ne_true h).elim
  | .dict ks es, cx, x, T, h => by
    cases x with
    | Dict kes ves p =>
      have h : (!ks.isEmpty && decide (ks.length < 10) && es.length == ks.length && okKeys ks kes && ks.all sOk && decide ks.Nodup && okEs cx es ves) = true := h
      simp only [Bool.and_eq_true, beq_iff_eq, decide_eq_true_eq, Bool.not_eq_true', List.isEmpty_eq_false_iff, List.all_eq_true] at h
      obtain ⟨⟨⟨⟨⟨⟨h1, h2⟩, h3⟩, h4⟩, h5⟩, h6⟩, h7⟩ := h
      exact sim_dict (okKeys_R h4) (okEs_sim es cx ves T h7) (by rw [← okEs_len h7]; exact h3.symm) h1 h2 h6 h5
    | _ => exact (Bool.false_ne_true h).elim
  | .comp mt elt k it cond, cx, x, T, h => by
    cases x with
    | ListComp ee gens s p =>
      rcases gens with _ | ⟨⟨tg, ie, ifs, as⟩, gens⟩ <;> first | (exact (Bool.false_ne_true h).elim) | skip
      cases tg with
      | Name y q =>
        rcases gens with _ | ⟨g2, gens⟩ <;> first | (exact (Bool.false_ne_true h).elim) | skip
        have key : ∀ {q : Bool}, ((as == 0) && notSetE ie && cx.compOk s y k && okE cx it ie && okE (cx.inner s y k) elt ee && q) = true → as = 0 ∧ notSetE ie = true ∧ cx.compOk s y k = true ∧ okE cx it ie = true ∧ okE (cx.inner s y k) elt ee = true ∧ q = true := fun h => by
          simp only [Bool.and_eq_true, beq_iff_eq] at h
          obtain ⟨⟨⟨⟨⟨h0, h1⟩, h2⟩, h3⟩, h4⟩, h5⟩ := h
          exact ⟨h0, h1, h2, h3, h4, h5⟩
        have T' := T.inner s y k
        rcases ifs with _ | ⟨e, _ | ⟨e2, ifs⟩⟩
        · obtain ⟨rfl, h1, h2, h3, h4, h5⟩ := key (q := isCTrue cond) h
          exact sim_comp h1 (compOk_R h2) (okE_sim it cx ie T h3) (okE_sim elt _ ee T' h4) (.inl ⟨rfl, isCTrue_eq h5⟩)
        · obtain ⟨rfl, h1, h2, h3, h4, h5⟩ := key (q := okE (cx.inner s y k) cond e) h
          exact sim_comp h1 (compOk_R h2) (okE_sim it cx ie T h3) (okE_sim elt _ ee T' h4) (.inr ⟨e, rfl, okE_sim cond _ e T' h5⟩)
        · obtain ⟨_, _, _, _, _, h5⟩ := key (q := false) h
          cases h5
      | _ => exact (Bool.false_ne_true h).elim
    | _ => exact (Bool.false_ne_true h).elim
termination_by structural e => e
theorem okEs_sim : ∀ (es : List E) (cx : Cxt) (xs : List Expr), Stc prog ω K mg mb P cl n cx → okEs cx es xs = true → Sims prog ω K mg mb P cl n cx es xs
  | [], cx, xs, T, h => by
    cases xs with
    | nil => exact .nil
    | cons _ _ => exact (Bool.false_ne_true h).elim
  | e :: es, cx, xs, T, h => by
    cases xs with
    | nil => exact (Bool.false_ne_true h).elim
    | cons x xs =>
      have h : (notStar x && okE cx e x && okEs cx es xs) = true := h
      simp only [Bool.and_eq_true] at h
      exact .cons h.1.1 (okE_sim e cx x T h.1.2) (okEs_sim es cx xs T h.2)
termination_by structural es => es
theorem okKs_sim : ∀ (es : List E) (ns : List String) (cx : Cxt) (ks : List Keyword), Stc prog ω K mg mb P cl n cx → okKs cx ns es ks = true → SimKs prog ω K mg mb P cl n cx ns es ks
  | [], ns, cx, ks, T, h => by
    cases ns <;> cases ks <;> first | exact .nil | (exact (Bool.false_ne_true h).elim)
  | e :: es, ns, cx, ks, T, h => by
    cases ns with
    | nil => cases ks <;> (exact (Bool.false_ne_true h).elim)
    | cons m ns =>
      cases ks with
      | nil => exact (Bool.false_ne_true h).elim
      | cons k ks =>
        obtain ⟨nm, x, p⟩ := k
        cases nm with
        | none => exact (Bool.false_ne_true h).elim
        | some y =>
          have h : (y == Str.ofString m && okE cx e x && okKs cx ns es ks) = true := h
          simp only [Bool.and_eq_true, beq_iff_eq] at h
          obtain ⟨⟨rfl, h1⟩, h2⟩ := h
          exact .cons (okE_sim e cx x T h1) (okKs_sim es ns cx ks T h2)
termination_by structural es => es
end

theorem okS_expr {cx : Cxt} {e : E} {x : Stmt} (h : okS cx (.expr e) x = true) : ∃ v p, x = .Expr v p ∧ notComp v = true ∧ okE cx e v = true := by
  cases x with
  | Expr v p =>
    have h : (notComp v && okE cx e v) = true := h
    simp only [Bool.and_eq_true] at h
    exact ⟨v, p, rfl, h.1, h.2⟩
  | _ => exact (Bool.false_ne_true h).elim
theorem okS_assign {cx : Cxt} {k : Nat} {e : E} {x : Stmt} (h : okS cx (.assign k e) x = true) : ∃ y q v p, x = .Assign [.Name y q] v p ∧ cx.vis.lookup y = some k ∧ (cx.scope.names.lookup y = some .local ∨ cx.scope.names.lookup y = some .cell) ∧ notComp v = true ∧ okE cx e v = true := by
  cases x with
  | Assign ts v p =>
    rcases ts with _ | ⟨t, _ | ⟨t2, ts⟩⟩
    · exact (Bool.false_ne_true h).elim
    · cases t with
      | Name y q =>
        have h : (cx.vis.lookup y == some k && (cx.scope.names.lookup y == some .local || cx.scope.names.lookup y == some .cell) && notComp v && okE cx e v) = true := h
        simp only [Bool.and_eq_true, beq_iff_eq, Bool.or_eq_true] at h
        obtain ⟨⟨⟨h1, h2⟩, h3⟩, h4⟩ := h
        exact ⟨y, q, v, p, rfl, h1, h2, h3, h4⟩
      | _ => exact (Bool.false_ne_true h).elim
    · cases t <;> exact (Bool.false_ne_true h).elim
  | _ => exact (Bool.false_ne_true h).elim
theorem okS_setattr {cx : Cxt} {o : E} {a : String} {e : E} {x : Stmt} (h : okS cx (.setattr o a e) x = true) : ∃ oe q v p, x = .Assign [.Attribute oe (Str.ofString a) q] v p ∧ cx.attrs.contains a = true ∧ notComp v = true ∧ okE cx o oe = true ∧ okE cx e v = true := by
  cases x with
  | Assign ts v p =>
    rcases ts with _ | ⟨t, _ | ⟨t2, ts⟩⟩
    · exact (Bool.false_ne_true h).elim
    · cases t with
      | Attribute oe y q =>
        have h : (y == Str.ofString a && cx.attrs.contains a && notComp v && okE cx o oe && okE cx e v) = true := h
        simp only [Bool.and_eq_true, beq_iff_eq] at h
        obtain ⟨⟨⟨⟨rfl, h1⟩, h2⟩, h3⟩, h4⟩ := h
        exact ⟨oe, q, v, p, rfl, h1, h2, h3, h4⟩
      | _ => exact (Bool.false_ne_true h).elim
    · cases t <;> exact (Bool.false_ne_true h).elim
  | _ => exact (Bool.false_ne_true h).elim
theorem okS_setidx {cx : Cxt} {o i e : E} {x : Stmt} (h : okS cx (.setidx o i e) x = true) : ∃ oe ie q v p, x = .Assign [.Subscript oe ie q] v p ∧ notComp v = true ∧ okE cx o oe = true ∧ okE cx i ie = true ∧ okE cx e v = true := by
  cases x with
  | Assign ts v p =>
    rcases ts with _ | ⟨t, _ | ⟨t2, ts⟩⟩
    · exact (Bool.false_ne_true h).elim
    · cases t with
      | Subscript oe ie q =>
        have h : (notComp v && okE cx o oe && okE cx i ie && okE cx e v) = true := h
        simp only [Bool.and_eq_true] at h
        obtain ⟨⟨⟨h1, h2⟩, h3⟩, h4⟩ := h
        exact ⟨oe, ie, q, v, p, rfl, h1, h2, h3, h4⟩
      | _ => exact (Bool.false_ne_true h).elim
    · cases t <;> exact (Bool.false_ne_true h).elim
  | _ => exact (Bool.false_ne_true h).elim
theorem okS_ite {cx : Cxt} {t : E} {a b : List S} {x : Stmt} (h : okS cx (.ite t a b) x = true) : ∃ te as bs p, x = .If te as bs p ∧ okE cx t te = true ∧ okSs cx a as = true ∧ okSs cx b bs = true := by
  cases x with
  | If te as bs p =>
    have h : (okE cx t te && okSs cx a as && okSs cx b bs) = true := h
    simp only [Bool.and_eq_true] at h
    exact ⟨te, as, bs, p, rfl, h.1.1, h.1.2, h.2⟩
  | _ => exact (Bool.false_ne_true h).elim
theorem okS_for1 {cx : Cxt} {k : Nat} {it : E} {b : List S} {x : Stmt} (h : okS cx (.for1 k it b) x = true) : ∃ y q ie bs p, x = .For (.Name y q) ie bs [] p ∧ cx.vis.lookup y = some k ∧ cx.scope.names.lookup y = some .local ∧ notSetE ie = true ∧ okE cx it ie = true ∧ okSs cx b bs = true := by
  cases x with
  | For tg ie bs es p =>
    cases es with
    | nil =>
      cases tg with
      | Name y q =>
        have h : (cx.vis.lookup y == some k && (cx.scope.names.lookup y == some .local) && notSetE ie && okE cx it ie && okSs cx b bs) = true := h
        simp only [Bool.and_eq_true, beq_iff_eq] at h
        obtain ⟨⟨⟨⟨h1, h2⟩, h3⟩, h4⟩, h5⟩ := h
        exact ⟨y, q, ie, bs, p, rfl, h1, h2, h3, h4, h5⟩
      | _ => exact (Bool.false_ne_true h).elim
    | cons _ _ =>
      cases tg with
      | Tuple ts j q =>
        rcases ts with _ | ⟨t1, _ | ⟨t2, _ | ⟨t3, ts⟩⟩⟩ <;> first
          | exact (Bool.false_ne_true h).elim
          | (cases t1 <;> first
            | exact (Bool.false_ne_true h).elim
            | (cases t2 <;> exact (Bool.false_ne_true h).elim))
      | _ => exact (Bool.false_ne_true h).elim
  | _ => exact (Bool.false_ne_true h).elim
theorem okS_ret {cx : Cxt} {e : E} {x : Stmt} (h : okS cx (.ret e) x = true) : ∃ v p, x = .Return (some v) p ∧ okE cx e v = true := by
  cases x with
  | Return v p =>
    cases v with
    | none => exact (Bool.false_ne_true h).elim
    | some v =>
      exact ⟨v, p, rfl, h⟩
  | _ => exact (Bool.false_ne_true h).elim
theorem okSs_cons {cx : Cxt} {e : S} {es : List S} {xs : List Stmt} (h : okSs cx (e :: es) xs = true) : ∃ x r, xs = x :: r ∧ okS cx e x = true ∧ okSs cx es r = true := by
  cases xs with
  | nil => exact (Bool.false_ne_true h).elim
  | cons x xs =>
    have h : (okS cx e x && okSs cx es xs) = true := h
    simp only [Bool.and_eq_true] at h
    exact ⟨x, xs, rfl, h.1, h.2⟩
theorem okSs_nil {cx : Cxt} {xs : List Stmt} (h : okSs cx [] xs = true) : xs = [] := by
  cases xs with
  | nil => rfl
  | cons _ _ => exact (Bool.false_ne_true h).elim

mutual
theorem okS_sim : ∀ (e : S) (cx : Cxt) (x : Stmt), Stc prog ω K mg mb P cl n cx → VisOK cx.vis → okS cx e x = true → SimS prog ω K mg mb P cl n cx e x
  | .expr e, cx, x, T, hv, h => by
    obtain ⟨v, p, rfl, h1, h2⟩ := okS_expr h
    exact sim_expr h1 (okE_sim e cx v T h2)
  | .assign k e, cx, x, T, hv, h => by
    obtain ⟨y, q, v, p, rfl, h1, h2, h3, h4⟩ := okS_assign h
    rcases h2 with h2 | h2
    · exact sim_assignL hv h1 h2 h3 (okE_sim e cx v T h4)
    · exact sim_assignC hv h1 h2 h3 (okE_sim e cx v T h4)
  | .setattr o a e, cx, x, T, hv, h => by
    obtain ⟨oe, q, v, p, rfl, h1, h2, h3, h4⟩ := okS_setattr h
    exact sim_setattr h1 h2 (okE_sim o cx oe T h3) (okE_sim e cx v T h4)
  | .setidx o i e, cx, x, T, hv, h => by
    obtain ⟨oe, ie, q, v, p, rfl, h1, h2, h3, h4⟩ := okS_setidx h
    exact sim_setidx h1 (okE_sim o cx oe T h2) (okE_sim i cx ie T h3) (okE_sim e cx v T h4)
  | .ite t a b, cx, x, T, hv, h => by
    obtain ⟨te, as, bs, p, rfl, h1, h2, h3⟩ := okS_ite h
    exact sim_ite (okE_sim t cx te T h1) (okSs_sim a cx as T hv h2) (okSs_sim b cx bs T hv h3)
  | .for1 k it b, cx, x, T, hv, h => by
    obtain ⟨y, q, ie, bs, p, rfl, h1, h2, h3, h4, h5⟩ := okS_for1 h
    exact sim_for1 hv h1 h2 h3 (okE_sim it cx ie T h4) (okSs_sim b cx bs T hv h5)
  | .ret e, cx, x, T, hv, h => by
    obtain ⟨v, p, rfl, h1⟩ := okS_ret h
    exact sim_ret (okE_sim e cx v T h1)
termination_by structural e => e
theorem okSs_sim : ∀ (es : List S) (cx : Cxt) (xs : List Stmt), Stc prog ω K mg mb P cl n cx → VisOK cx.vis → okSs cx es xs = true → SimSs prog ω K mg mb P cl n cx es xs
  | [], cx, xs, T, hv, h => by
    have e := okSs_nil h
    rw [e]; exact sims_nil
  | e :: es, cx, xs, T, hv, h => by
    obtain ⟨x, r, rfl, h1, h2⟩ := okSs_cons h
    exact sims_cons (okS_sim e cx x T hv h1) (okSs_sim es cx r T hv h2)
termination_by structural es => es
end
end
end Lw
set_option autoImplicit false
namespace Lw
open PySem PySem.W PySem.Calls PyProof.Rows

noncomputable def cxOf (c : Com) (sc : Scope) (vis : List (Str × Nat)) : Cxt := ⟨sc, vis, false, c.fns, c.cls, c.excs, c.attrs, c.bifs, c.gis⟩
noncomputable def fnAt (K : Frag) (cc m : String) : Option Addr :=
  if cc == "" then (match nsIn K mainGlobals (Str.ofString m) with | some (some (.ref a)) => some a | _ => none)
  else match clsAt K cc with
    | some C => (match findIn K (.ref C) (Str.ofString m) with | some (some (.ref a)) => some a | _ => none)
    | none => none

noncomputable def dflOk (K : Frag) (d : Value) (vs : List V) : Bool := match d with
  | .none => vs.isEmpty
  | _ => false

noncomputable def bodyOk (com : Com) (fn : Fn) (vis : List (Str × Nat)) (fd : FuncData) : Bool := match fd.body with
  | .stmts body => okSs (cxOf com fd.scope vis) fn.body body
  | _ => false
noncomputable def headOk (K : Frag) (fn : Fn) (vis : List (Str × Nat)) (fd : FuncData) : Bool :=
  codeIn K fd.code fd.qualname && (fd.scope.kind == .function) && !fd.scope.isCoroutine && !fd.scope.isGenerator && fd.closure.isEmpty && (fd.globals == mainGlobals) && (fd.builtins == builtinsNs) &&
  fd.params.posonlyargs.isEmpty && fd.params.kwonlyargs.isEmpty && fd.params.vararg.isNone && fd.params.kwarg.isNone && (fd.params.args.map (·.arg) == fn.params.map Str.ofString) && decide fn.params.Nodup &&
  decide (fn.defaults.length ≤ fn.params.length) && dflOk K fd.defaults fn.defaults && fn.params.zipIdx.all (fun p => vis.lookup (Str.ofString p.1) == some p.2) && decide (vis.map (·.1)).Nodup && decide (vis.map (·.2)).Nodup &&
  fn.params.all (fun p => fd.scope.names.lookup (Str.ofString p) == some .local || fd.scope.names.lookup (Str.ofString p) == some .cell) && decide (fd.scope.names.map (·.1)).Nodup
noncomputable def entOk (K : Frag) (com : Com) (e : Ent) : Bool :=
  (e.cc == "" || com.cls.contains e.cc) &&
  match fnAt K e.cc e.m with
  | some a => (typeIn K (.ref a) == some (.type "function")) && keepIn K (.ref a) && (match K.lookup a with
    | some ⟨_, _, .func fd, _⟩ => headOk K e.fn e.vis fd && bodyOk com e.fn e.vis fd
    | _ => false)
  | none => false
noncomputable def comOk (K : Frag) (com : Com) (T : List Ent) : Bool :=
  com.fns.all (fun f => (tblFns T "" f).isSome) &&
  com.cls.all (fun k => !(k == "") && (tblFns T k "__init__").isSome && (match clsAt K k with | some C => clsOk K com.attrs C && keepIn K (.ref C) | none => false)) &&
  com.excs.all (fun k => (clsAt K k).isSome) &&
  com.bifs.all (fun x => nsIn K mainGlobals (Str.ofString x) == some none) &&
  com.gis.all (fun x => match nsIn K mainGlobals (Str.ofString x.1) with | some (some (.int j _)) => x.2 == j | _ => false)

theorem tblFns_some {T : List Ent} {c m : String} {fn : Fn} (h : tblFns T c m = some fn) : ∃ e ∈ T, e.cc = c ∧ e.m = m ∧ e.fn = fn := by
  unfold tblFns at h
  rw [Option.map_eq_some_iff] at h
  obtain ⟨e, he, rfl⟩ := h
  have h1 := List.find?_some he
  simp only [Bool.and_eq_true, beq_iff_eq] at h1
  exact ⟨e, List.mem_of_find?_eq_some he, h1.1, h1.2, rfl⟩

theorem visOK_of {vis : List (Str × Nat)} (h1 : (vis.map (·.1)).Nodup) (h2 : (vis.map (·.2)).Nodup) : VisOK vis := by
  intro x y k hx hy
  have mx := mem_of_lookup hx
  have my := mem_of_lookup hy
  have : ∀ {l : List (Str × Nat)} {x y : Str} {k : Nat}, (l.map (·.2)).Nodup → (x, k) ∈ l → (y, k) ∈ l → x = y := by
    intro l
    induction l with
    | nil => intro x y k _ h; simp at h
    | cons p r ih =>
      intro x y k hn hx hy
      have hn' := List.nodup_cons.mp hn
      rcases List.mem_cons.mp hx with e1 | e1 <;> rcases List.mem_cons.mp hy with e2 | e2
      · rw [← e1] at e2; cases e2; rfl
      · subst e1; exact absurd (List.mem_map.mpr ⟨_, e2, rfl⟩) hn'.1
      · subst e2; exact absurd (List.mem_map.mpr ⟨_, e1, rfl⟩) hn'.1
      · exact ih hn'.2 e1 e2
  exact this h2 mx my

theorem entOk_facts {K : Frag} {com : Com} {e : Ent} (h : entOk K com e = true) : (e.cc = "" ∨ e.cc ∈ com.cls) ∧ ∃ a fd body, fnAt K e.cc e.m = some a ∧ typeIn K (.ref a) = some (.type "function") ∧ keepIn K (.ref a) = true ∧
    FnFacts K com.cls com.attrs e.fn a fd body (cxOf com fd.scope e.vis) ∧ okSs (cxOf com fd.scope e.vis) e.fn.body body = true := by
  unfold entOk at h
  simp only [Bool.and_eq_true, Bool.or_eq_true, beq_iff_eq, List.contains_iff_mem] at h
  obtain ⟨h0, h⟩ := h
  refine ⟨h0, ?_⟩
  split at h
  rotate_left
  · cases h
  rename_i a ha
  simp only [Bool.and_eq_true, beq_iff_eq] at h
  obtain ⟨⟨ht, hk⟩, h⟩ := h
  split at h
  rotate_left
  · cases h
  rename_i oc od fd sl hl
  simp only [Bool.and_eq_true] at h
  obtain ⟨hh, hb⟩ := h
  unfold bodyOk at hb
  split at hb
  rotate_left
  · cases hb
  rename_i body hbody
  unfold headOk at hh
  simp only [Bool.and_eq_true, beq_iff_eq, Bool.not_eq_true', decide_eq_true_eq, List.isEmpty_iff, Option.isNone_iff_eq_none, List.all_eq_true, Bool.or_eq_true] at hh
  obtain ⟨⟨⟨⟨⟨⟨⟨⟨⟨⟨⟨⟨⟨⟨⟨⟨⟨⟨⟨a1, a2⟩, a3⟩, a4⟩, a5⟩, a6⟩, a7⟩, a8⟩, a9⟩, a10⟩, a11⟩, a12⟩, a13⟩, a14⟩, a15⟩, a16⟩, a17⟩, a18⟩, a19⟩, a20⟩ := hh
  refine ⟨a, fd, body, ha, ht, hk, ⟨⟨oc, od, sl, hl⟩, hbody, a1, a2, a3, a4, a5, a6, a7, a8, a9, a10, a11, a12, a13, a14, ?_, rfl, rfl, rfl, fun j p hp => ?_, visOK_of a17 a18, a19, a20⟩, hb⟩
  · unfold dflOk at a15
    split at a15
    · rename_i hd; exact .inl ⟨hd, by simpa using a15⟩
    · cases a15
  · have := a16 (p, j) (by
      rw [List.mem_zipIdx_iff_getElem?]; exact hp)
    exact this

section
variable {prog : Program} {ω : World} {K : Frag} {mg mb : Str → Option Value} {com : Com} {T : List Ent} {sub : String → String → Bool}

theorem fnAt_glob {m : String} {a : Addr} (h : fnAt K "" m = some a) : nsIn K mainGlobals (Str.ofString m) = some (some (.ref a)) := by
  unfold fnAt at h
  rw [if_pos (by decide)] at h
  split at h
  · rename_i e; cases h; exact e
  · cases h
theorem fnAt_meth {cc m : String} {a : Addr} (hne : cc ≠ "") (h : fnAt K cc m = some a) (ht : typeIn K (.ref a) = some (.type "function")) (hk : keepIn K (.ref a) = true) : MethAt K cc m a := by
  unfold fnAt at h
  rw [if_neg (by simpa using hne)] at h
  split at h
  · rename_i C hC
    split at h
    · rename_i e; cases h; exact ⟨C, hC, e, ht, hk⟩
    · cases h
  · cases h

theorem prog_sim (hT : T.all (entOk K com) = true) (hc : comOk K com T = true) : ∀ (n : Nat) (cc m : String) (fn : Fn), tblFns T cc m = some fn →
    ∃ a, fnAt K cc m = some a ∧ typeIn K (.ref a) = some (.type "function") ∧ keepIn K (.ref a) = true ∧ SimC prog ω K mg mb com.cls com.attrs (run (progOf T sub) n) n cc m a := by
  unfold comOk at hc
  simp only [Bool.and_eq_true, List.all_eq_true, Bool.not_eq_true', beq_eq_false_iff_ne] at hc hT
  obtain ⟨⟨⟨⟨c1, c2⟩, c3⟩, c4⟩, c5⟩ := hc
  intro n
  induction n with
  | zero =>
    intro cc m fn hfn
    obtain ⟨e, he, rfl, rfl, rfl⟩ := tblFns_some hfn
    obtain ⟨_, a, fd, body, h1, h2, h3, _⟩ := entOk_facts (hT e he)
    refine ⟨a, h1, h2, h3, ?_⟩
    intro hd c w σ envs A s args kvs kn xs ys r σ' hev
    cases hev
  | succ n ih =>
    intro cc m fn hfn
    obtain ⟨e, he, rfl, rfl, rfl⟩ := tblFns_some hfn
    obtain ⟨_, a, fd, body, h1, h2, h3, H, hb⟩ := entOk_facts (hT e he)
    refine ⟨a, h1, h2, h3, simC_step (P := progOf T sub) hfn H (okSs_sim _ _ _ ?_ H.vis hb)⟩
    refine ⟨fun f hf => ?_, fun k hk => ?_, fun c' m' fn' hcc hfn' => ?_, fun k hk => ?_, fun x hx => ?_, fun x i hx => ?_⟩
    · obtain ⟨fn', hfn'⟩ := Option.isSome_iff_exists.mp (c1 f hf)
      obtain ⟨b, k1, k2, k3, k4⟩ := ih "" f fn' hfn'
      exact ⟨b, fnAt_glob k1, k3, k4⟩
    · obtain ⟨⟨d0, d1⟩, d2⟩ := c2 k hk
      obtain ⟨fn', hfn'⟩ := Option.isSome_iff_exists.mp d1
      obtain ⟨b, k1, k2, k3, k4⟩ := ih k "__init__" fn' hfn'
      split at d2
      · rename_i C hC
        exact ⟨C, b, hC, (by simp only [Bool.and_eq_true] at d2; exact d2.2), fnAt_meth d0 k1 k2 k3, k4⟩
      · cases d2
    · obtain ⟨⟨d0, _⟩, _⟩ := c2 c' hcc
      obtain ⟨b, k1, k2, k3, k4⟩ := ih c' m' fn' hfn'
      exact ⟨b, fnAt_meth d0 k1 k2 k3, k4⟩
    · exact Option.isSome_iff_exists.mp (c3 k hk)
    · exact by simpa using c4 x hx
    · have := c5 (x, i) hx
      dsimp only at this
      split at this
      · rename_i j t hj
        have e : i = j := by simpa using this
        subst e; exact ⟨t, hj⟩
      · cases this

theorem com_cls (hc : comOk K com T = true) : ∀ x ∈ com.cls, ∃ C, clsAt K x = some C ∧ clsOk K com.attrs C = true := by
  unfold comOk at hc
  simp only [Bool.and_eq_true, List.all_eq_true, Bool.not_eq_true', beq_eq_false_iff_ne] at hc
  obtain ⟨⟨⟨⟨_, c2⟩, _⟩, _⟩, _⟩ := hc
  intro x hx
  obtain ⟨_, d2⟩ := c2 x hx
  split at d2
  · rename_i C hC
    simp only [Bool.and_eq_true] at d2
    exact ⟨C, hC, d2.1⟩
  · cases d2
end
end Lw
set_option autoImplicit false
namespace Lw
open PySem PySem.W PySem.Calls PyProof.Rows

section
variable {prog : Program} {ω : World} {K : Frag} {mg mb : Str → Option Value} {com : Com} {T : List Ent} {sub : String → String → Bool}

theorem ints_vr {w : Wd} : ∀ {vals : List Value} {ns : List Int}, IntsAre vals ns → VRs K w (ns.map .int) vals
  | _, _, .nil => .nil
  | _, _, .cons i t h => .cons (.int _ _) (ints_vr h)

noncomputable def cx0 (h : Heap) (com : Com) : Cx := ⟨h.get?, fun _ => none, [], com.cls, com.attrs⟩
noncomputable def wd0 (h : Heap) (l : Addr) : Wd := ⟨fun a => if a = l then h.get? l else none, [], fun _ => False⟩

theorem law_top {s₁ : Shared} {l fa : Addr} {vals : List Value} {ns : List Int} {n : Nat} {fn : Fn} {Q Ex : Value → Shared → Prop} (KX : K.In s₁.heap) (Tg : s₁.heap.Ns mainGlobals mg) (Tb : s₁.heap.Ns builtinsNs mb) (hnl : s₁.heap.NoLimit)
    (hbi : ∀ x : Str, x ≠ "__name__" → mb x = bootBuiltins x) (hmg : mg (Str.ofString "law") = some (.ref fa)) (hT : T.all (entOk K com) = true) (hc : comOk K com T = true) (hfn : tblFns T "" "law" = some fn)
    (hl : s₁.heap.IsList l vals.toArray) (hi : IntsAre vals ns) (hlen : ns.length ≤ 63) (hn : n ≤ 60) (hlaw : ∃ σ', run (progOf T sub) n false "" "law" [.lst (ns.map .int)] [] St.empty = some (.ok (.bool true), σ'))
    (hQ : ∀ s', Same s₁ s' → (∀ b o, s₁.heap.get? b = some o → s'.heap.get? b = some o) → Q (.bool true) s') :
    wpAny (model prog ω) callerA (call (.ref fa) [.ref l]) Q Ex s₁ := by
  obtain ⟨a, h1, h2, h3, hsim⟩ := prog_sim (prog := prog) (ω := ω) (mg := mg) (mb := mb) (sub := sub) hT hc n "" "law" fn hfn
  have ha := mg_of KX Tg (fnAt_glob h1)
  rw [hmg] at ha
  cases ha
  obtain ⟨σ', hrun⟩ := hlaw
  obtain ⟨o, ho, hcl, m, hdat⟩ := hl
  have B : Base K (cx0 s₁.heap com) mg mb := by
    refine ⟨fun a o e => KX a o e, ?_, ?_, hbi, ?_, com_cls hc⟩
    · obtain ⟨o, e, x⟩ := ObjNs.of Tg; exact ⟨o, e, x⟩
    · obtain ⟨o, e, x⟩ := ObjNs.of Tb; exact ⟨o, e, x⟩
    · obtain ⟨mc, x, y⟩ := hnl
      obtain ⟨o, e, x⟩ := ObjNs.of x; exact ⟨o, mc, e, x, y⟩
  have S : SR prog ω K (cx0 s₁.heap com) (wd0 s₁.heap l) St.empty s₁.heap := by
    refine ⟨fun x o e => ?_, fun x o e => e, fun x o e => (by cases e), fun q hq => (by cases hq), rfl, fun x q => q.elim, fun i o e => (by cases e), fun i p e => (by simp [wd0] at e), fun i j p q _ e _ => (by simp [wd0] at e)⟩
    change (if x = l then _ else _) = _ at e
    split at e
    · rename_i q; rw [q]; exact e
    · cases e
  have hv : VR K (wd0 s₁.heap l) (.lst (ns.map .int)) (.ref l) := by
    refine .lst (o := o) (xs := vals.toArray) (n := m) ?_ hcl hdat ?_ (by rw [List.length_map]; unfold lim; omega)
    · show (if l = l then _ else _) = _; rw [if_pos rfl]; exact ho
    · simpa using ints_vr hi
  have hA : AOC callerA n false (cx0 s₁.heap com) [] := by
    refine ⟨fun _ => rfl, ?_, ?_, rfl, trivial⟩
    · show 1 + claimMargin + 4 * n + 2 < 1000
      unfold claimMargin; omega
    · show 4 + 100 * n + 150 < 9900; omega
  refine wpAny_call (codeAny_mono (hsim false (cx0 s₁.heap com) (wd0 s₁.heap l) St.empty [] callerA s₁ [.lst (ns.map .int)] [] [] [.ref l] [] _ σ' hrun B rfl rfl S hA (.cons hv .nil) .nil) fun rr s' q => ?_)
  rcases rr with e | (v | _ | _ | _) <;> first | exact q.elim | skip
  · obtain ⟨x, q, _⟩ := q; cases q
  · obtain ⟨hs, w', b, q, _, S', hv'⟩ := q
    cases q
    cases hv'
    exact hQ s' hs fun b o e => S'.kp b o e
end
end Lw
set_option autoImplicit false
namespace Lw
open PySem PySem.W PySem.Calls PyProof.Rows

noncomputable def notName : Stmt → Bool
  | .Assign [.Name x _] _ _ => !(x == ("__name__" : Str))
  | _ => true
noncomputable def viewOf (p : Program) : Program := { p with main := { p.main with body := p.main.body.filter notName } }
noncomputable def endsOf (p : Program) (N : Nat) (w : World) : Option Shared := openEnds treeTable p w N
noncomputable def saysOf (p : Program) (N : Nat) (w : World) (h : Heap) : Prop := ∃ s, endsOf p N w = some s ∧ ∀ a o, s.heap.get? a = some o → h.get? a = some o
noncomputable def fragOf (as : List Addr) (s : Shared) : Frag := as.filterMap fun a => (s.heap.get? a).map fun o => (a, o)
noncomputable def fragAt (p : Program) (N : Nat) (as : List Addr) (w : World) : Frag := match endsOf p N w with
  | some s => fragOf as s
  | none => []

theorem look_mem {α : Type} : ∀ {l : List (Addr × α)} {a : Addr} {o : α}, l.lookup a = some o → (a, o) ∈ l
  | [], _, _, h => by cases h
  | (b, x) :: r, a, o, h => by
    by_cases q : a = b
    · subst q
      simp at h
      subst h; exact List.mem_cons_self ..
    · have hq : (a == b) = false := by simpa using q
      rw [List.lookup_cons, hq] at h
      exact List.mem_cons_of_mem _ (look_mem h)
theorem frag_in {as : List Addr} {s : Shared} {a : Addr} {o : Obj} (h : (fragOf as s).lookup a = some o) : s.heap.get? a = some o := by
  have hm : (a, o) ∈ fragOf as s := look_mem h
  unfold fragOf at hm
  rw [List.mem_filterMap] at hm
  obtain ⟨b, _, e⟩ := hm
  rw [Option.map_eq_some_iff] at e
  obtain ⟨x, hx, e⟩ := e
  cases e
  exact hx
theorem says_of (p : Program) (N : Nat) (w : World) (s : Shared) (e : some s.heap = (endsOf p N w).map (·.heap)) : saysOf p N w s.heap := by
  cases q : endsOf p N w with
  | none => rw [q] at e; cases e
  | some s' =>
    rw [q] at e
    have e' : s.heap = s'.heap := by simpa using e
    exact ⟨s', q, fun a o h => by rw [e']; exact h⟩
theorem says_keeps (p : Program) (N : Nat) (w : World) (h h' : Heap) (Y : saysOf p N w h) (k : ∀ b o, h.get? b = some o → h'.get? b = some o) : saysOf p N w h' :=
  let ⟨s, e, x⟩ := Y; ⟨s, e, fun a o q => k a o (x a o q)⟩
theorem left_of {p q : Program} {loose : List Str} {Xt : Shared → Bool} {N : Nat} (h : ∀ w, (endsOf p N w).map (fun s => openSeen q loose (importedModules p.main.body) Xt true s) = some (openGood q loose)) :
    LeftO p q loose Xt (fun s => some s.heap) (fun w => (endsOf p N w).map (·.heap)) N := by
  intro w
  have hw := h w
  show (endsOf p N w).map _ = _
  cases e : endsOf p N w with
  | none => rw [e] at hw; cases hw
  | some s =>
    rw [e] at hw
    simp only [Option.map_some, Option.some.injEq] at hw ⊢
    rw [hw, e]; rfl

noncomputable def defD (q : Program) (n : Str) : DefRec := match defOf q n with
  | some (d, _) => d
  | none => ⟨n, ⟨[], [], none, [], [], none, []⟩, [], ⟨.function, [], false, false, []⟩, ⟨0, 0, 0, 0⟩⟩
theorem ran1 {α β γ δ : Type} {x : Option α} {f : α → β} {g : α → γ} {h : α → δ} {b : β} {c : γ} {d : δ} (e : x.map (fun s => (f s, g s, h s)) = some (b, c, d)) : x.map f = some b := by
  cases x with
  | none => cases e
  | some s =>
    simp only [Option.map_some, Option.some.injEq, Prod.mk.injEq] at e
    simp only [Option.map_some, e.1]
theorem frag_ran {p : Program} {N : Nat} {w : World} {h : Heap} {as : List Addr} {T : List Ent} {com : Com} {β : Type} {f : Shared → β} {b : β}
    (e : (endsOf p N w).map (fun s => (f s, T.all (entOk (fragOf as s) com), comOk (fragOf as s) com T)) = some (b, true, true)) (Y : saysOf p N w h) :
    ∃ K : Frag, K.In h ∧ T.all (entOk K com) = true ∧ comOk K com T = true := by
  obtain ⟨s, es, hk⟩ := Y
  rw [es] at e
  simp only [Option.map_some, Option.some.injEq, Prod.mk.injEq] at e
  exact ⟨fragOf as s, fun a o hl => hk a o (frag_in hl), e.2.1, e.2.2⟩
end Lw
namespace Lw
open PySem

noncomputable def fin : RS → RV
  | some (.ret v, _, σ') => some (.ok v, σ')
  | some (.next, _, σ') => some (.ok .none, σ')
  | some (.exc c, _, σ') => some (.exc c, σ')
  | none => none
theorem run_call {P : Prog} {n : Nat} {hd : Bool} {c f : String} {args : List V} {kws : List (String × V)} {σ : St} {fn : Fn} {vs : List V} (hf : P.fns c f = some fn)
    (hk : (kws.all (fun k => (fn.params.drop args.length).contains k.1) && decide (kws.map (·.1)).Nodup) = true) (hb : bindP fn.params args kws fn.dflts = some vs) :
    run P (n + 1) hd c f args kws σ = fin (execs P (run P n) hd fn.body (rhoOf vs) σ) := by
  rw [run]
  simp only [hf, hb]
  rw [if_pos hk]
  unfold fin
  split <;> simp_all

theorem get_set (σ : St) (i j : Nat) (o : O) : (σ.set i o).get j = if j = i then some o else σ.get j := rfl
theorem get_new (σ : St) (j : Nat) (o : O) : (σ.new o).get j = if j = σ.n then some o else σ.get j := rfl
theorem n_set (σ : St) (i : Nat) (o : O) : (σ.set i o).n = σ.n := rfl
theorem n_new (σ : St) (o : O) : (σ.new o).n = σ.n + 1 := rfl
theorem bindM_ok {α β : Type} (a : α) (σ : St) (k : α → St → Option (Res β × St)) : bindM (some (.ok a, σ)) k = k a σ := rfl
theorem bindE_ok (a : V) (σ : St) (ρ : Rho) (k : V → St → RS) : bindE (some (.ok a, σ)) ρ k = k a σ := rfl
theorem bindS_next (ρ : Rho) (σ : St) (k : Rho → St → RS) : bindS (some (.next, ρ, σ)) k = k ρ σ := rfl
theorem bindS_ret (v : V) (ρ : Rho) (σ : St) (k : Rho → St → RS) : bindS (some (.ret v, ρ, σ)) k = some (.ret v, ρ, σ) := rfl
theorem fin_ret (v : V) (ρ : Rho) (σ : St) : fin (some (.ret v, ρ, σ)) = some (.ok v, σ) := rfl
theorem fin_next (ρ : Rho) (σ : St) : fin (some (.next, ρ, σ)) = some (.ok .none, σ) := rfl
theorem upd_self (ρ : Rho) (k : Nat) (v : V) : upd ρ k v k = some v := by simp [upd]
theorem upd_ne (ρ : Rho) (k j : Nat) (v : V) (h : j ≠ k) : upd ρ k v j = ρ j := by simp [upd, h]

theorem str_inj {a b : String} (h : Str.ofString a = Str.ofString b) : a = b := by
  rw [Str.ofString_eq_toList, Str.ofString_eq_toList] at h
  simp only [Str.mk.injEq, Array.mk.injEq] at h
  have h : a.toList.map Char.toNat = b.toList.map Char.toNat := by simpa using h
  have inj : ∀ (x y : List Char), x.map Char.toNat = y.map Char.toNat → x = y := by
    intro x
    induction x with
    | nil => intro y h; cases y with | nil => rfl | cons _ _ => simp at h
    | cons c r ih =>
      intro y h
      cases y with
      | nil => simp at h
      | cons d t =>
        simp only [List.map_cons, List.cons.injEq] at h
        have e : c = d := by
          have := h.1
          exact Char.ext (UInt32.toNat_inj.mp this)
        rw [e, ih t h.2]
  have := inj _ _ h
  exact String.toList_inj.mp this
theorem str_eq (a b : String) : (Str.ofString a = Str.ofString b) = (a = b) := propext ⟨str_inj, fun e => by rw [e]⟩

theorem eqvAll_self {xs : List PyData} (h : ∀ x ∈ xs, PyData.eqv x x = true) : PyData.eqvAll xs xs = true := by
  induction xs with
  | nil => rfl
  | cons x r ih =>
    show (PyData.eqv x x && PyData.eqvAll r r) = true
    rw [h x (by simp), ih fun y hy => h y (by simp [hy])]; rfl
theorem mapO_mem {α β : Type} {f : α → Option β} : ∀ {l : List α} {ys : List β}, mapO f l = some ys → ∀ y ∈ ys, ∃ x ∈ l, f x = some y
  | [], ys, h, y, hy => by simp [mapO] at h; subst h; simp at hy
  | a :: r, ys, h, y, hy => by
    simp only [mapO] at h
    split at h
    · rename_i b bs h1 h2
      cases h
      rcases List.mem_cons.mp hy with rfl | hy
      · exact ⟨a, by simp, h1⟩
      · obtain ⟨x, hx, e⟩ := mapO_mem h2 y hy
        exact ⟨x, by simp [hx], e⟩
    · cases h
theorem beq_rfl' {α : Type} [BEq α] [LawfulBEq α] (a : α) : (a == a) = true := by simp
theorem eqv_data {σ : St} : ∀ (n : Nat) (v : V) (d : PyData), dataOf σ n v = some d → PyData.eqv d d = true := by
  intro n
  induction n with
  | zero =>
    intro v d h
    cases v with
    | none => cases h; rfl
    | bool b => cases h; exact beq_rfl' b
    | int i => cases h; exact beq_rfl' i
    | str s => cases h; exact beq_rfl' s
    | tup => cases h
    | lst => cases h
    | rng => cases h
    | ref => cases h
    | exc => cases h
  | succ n ih =>
    intro v d h
    have key : ∀ vs ds, mapO (dataOf σ n) vs = some ds → PyData.eqvAll ds ds = true := fun vs ds e => eqvAll_self fun y hy => by
      obtain ⟨x, _, e⟩ := mapO_mem e y hy
      exact ih x y e
    cases v with
    | none => cases h; rfl
    | bool b => cases h; exact beq_rfl' b
    | int i => cases h; exact beq_rfl' i
    | str s => cases h; exact beq_rfl' s
    | rng => cases h
    | exc => cases h
    | tup vs =>
      obtain ⟨ds, e, rfl⟩ := Option.map_eq_some_iff.mp (show (mapO (dataOf σ n) vs).map .tuple = some d from h)
      exact key vs ds e
    | lst vs =>
      obtain ⟨ds, e, rfl⟩ := Option.map_eq_some_iff.mp (show (mapO (dataOf σ n) vs).map .list = some d from h)
      exact key vs ds e
    | ref i =>
      have h : (match σ.get i with | some (.list _ vs) => (mapO (dataOf σ n) vs).map .list | _ => none) = some d := h
      split at h
      · obtain ⟨ds, e, rfl⟩ := Option.map_eq_some_iff.mp h
        exact key _ ds e
      · cases h
theorem mapO_all {α β : Type} {f : α → Option β} {l : List α} (h : ∀ x ∈ l, ∃ y, f x = some y) : ∃ ys, mapO f l = some ys ∧ ys.length = l.length := by
  induction l with
  | nil => exact ⟨[], rfl, rfl⟩
  | cons a r ih =>
    obtain ⟨y, e⟩ := h a (by simp)
    obtain ⟨ys, e', hl⟩ := ih fun x hx => h x (by simp [hx])
    exact ⟨y :: ys, by simp [mapO, e, e'], by simp [hl]⟩
theorem compL_all {test elt : V → St → Option (Res V × St)} {σ : St} {Q : V → Prop} : ∀ (items : List V), (∀ v ∈ items, test v σ = some (.ok (.bool true), σ) ∧ ∃ x, Q x ∧ elt v σ = some (.ok x, σ)) →
    ∃ xs, compL test elt items σ = some (.ok xs, σ) ∧ xs.length = items.length ∧ ∀ x ∈ xs, Q x
  | [], _ => ⟨[], rfl, rfl, by simp⟩
  | v :: r, h => by
    obtain ⟨h1, x, hx, h2⟩ := h v (by simp)
    obtain ⟨xs, e, hl, hq⟩ := compL_all r fun u hu => h u (by simp [hu])
    refine ⟨x :: xs, ?_, by simp [hl], ?_⟩
    · simp only [compL, h1, truthV, h2, e]
    · intro y hy
      rcases List.mem_cons.mp hy with rfl | hy
      · exact hx
      · exact hq y hy
theorem join_size : ∀ (ss : List Str), (Str.join ⟨#[]⟩ ss).cps.size = (ss.map (·.length)).sum
  | [] => rfl
  | [x] => by simp [Str.join, Str.length]
  | x :: y :: r => by
    have ih := join_size (y :: r)
    have e : ((⟨#[]⟩ : Str).join (x :: y :: r)).cps = x.cps ++ #[] ++ ((⟨#[]⟩ : Str).join (y :: r)).cps := rfl
    rw [e, Array.size_append, Array.size_append, ih]
    simp [Str.length]

noncomputable def Frame (A : List Nat) (σ σ' : St) : Prop := σ.n ≤ σ'.n ∧ ∀ j, j < σ.n → j ∉ A → σ'.get j = σ.get j
theorem Frame.refl (A : List Nat) (σ : St) : Frame A σ σ := ⟨Nat.le_refl _, fun _ _ _ => rfl⟩

theorem upd_at (ρ : Rho) (k j : Nat) (v : V) : upd ρ k v j = if j = k then some v else ρ j := rfl
theorem rho_at (vs : List V) (k : Nat) : rhoOf vs k = vs[k]? := rfl
theorem bV_addI (a b : Int) : binV .add (.int a) (.int b) = some (.int (a + b)) := rfl
theorem bV_subI (a b : Int) : binV .sub (.int a) (.int b) = some (.int (a - b)) := rfl
theorem bV_mulI (a b : Int) (h1 : a.natAbs < 1152921504606846976) (h2 : b.natAbs < 1152921504606846976) : binV .mul (.int a) (.int b) = some (.int (a * b)) := by
  exact if_pos ⟨h1, h2⟩
theorem bV_fdivI (a b : Int) (h1 : 0 < b) (h2 : b < 1152921504606846976) : binV .fdiv (.int a) (.int b) = some (.int (a / b)) := by
  exact if_pos ⟨h1, h2⟩
theorem bV_modI (a b : Int) (h1 : 0 < b) (h2 : b < 1152921504606846976) : binV .mod (.int a) (.int b) = some (.int (a % b)) := by
  exact if_pos ⟨h1, h2⟩
theorem bV_powI (b : Int) (h1 : 0 ≤ b) (h2 : b ≤ 40) : binV .pow (.int 10) (.int b) = some (.int (10 ^ b.toNat)) := by
  exact if_pos ⟨rfl, h1, h2⟩
theorem bV_addS (a b : Str) (h : a.length + b.length ≤ lim) : binV .add (.str a) (.str b) = some (.str (a ++ b)) := by
  exact if_pos h
theorem bV_addL (a b : List V) (h : a.length + b.length ≤ lim) : binV .add (.lst a) (.lst b) = some (.lst (a ++ b)) := by
  exact if_pos h
theorem cV_lt (σ : St) (a b : Int) : cmpV σ .lt (.int a) (.int b) = some (decide (a < b)) := rfl
theorem cV_le (σ : St) (a b : Int) : cmpV σ .le (.int a) (.int b) = some (decide (a ≤ b)) := rfl
theorem cV_gt (σ : St) (a b : Int) : cmpV σ .gt (.int a) (.int b) = some (decide (b < a)) := rfl
theorem cV_ge (σ : St) (a b : Int) : cmpV σ .ge (.int a) (.int b) = some (decide (b ≤ a)) := rfl
theorem cV_eqI (σ : St) (a b : Int) : cmpV σ .eq (.int a) (.int b) = some (decide (a = b)) := rfl
theorem cV_neI (σ : St) (a b : Int) : cmpV σ .ne (.int a) (.int b) = some (!decide (a = b)) := rfl
theorem cV_eqS (σ : St) (a b : Str) : cmpV σ .eq (.str a) (.str b) = some (decide (a = b)) := rfl
theorem cV_neS (σ : St) (a b : Str) : cmpV σ .ne (.str a) (.str b) = some (!decide (a = b)) := rfl
theorem tV_bool (σ : St) (b : Bool) : truthV σ (.bool b) = some b := rfl
theorem tV_int (σ : St) (b : Int) : truthV σ (.int b) = some (decide (b ≠ 0)) := rfl
theorem bf_lenS (s : Str) (σ : St) : bfV .len [.str s] σ = some (.ok (.int s.cps.size), σ) := rfl
theorem bf_lenL (vs : List V) (σ : St) : bfV .len [.lst vs] σ = some (.ok (.int vs.length), σ) := rfl
theorem bf_lenT (vs : List V) (σ : St) : bfV .len [.tup vs] σ = some (.ok (.int vs.length), σ) := rfl
theorem bf_min (a b : Int) (σ : St) : bfV .min [.int a, .int b] σ = some (.ok (.int (if b < a then b else a)), σ) := rfl
theorem bf_max (a b : Int) (σ : St) : bfV .max [.int a, .int b] σ = some (.ok (.int (if a < b then b else a)), σ) := rfl
theorem bf_abs (a : Int) (σ : St) : bfV .abs [.int a] σ = some (.ok (.int (a.natAbs : Int)), σ) := rfl
theorem bf_r1 (b : Int) (σ : St) : bfV .range [.int b] σ = some (.ok (.rng 0 b 1), σ) := rfl
theorem bf_r2 (a b : Int) (σ : St) : bfV .range [.int a, .int b] σ = some (.ok (.rng a b 1), σ) := rfl
theorem bf_r3 (a b c : Int) (σ : St) (h1 : 0 < c) (h2 : c < 1000000) : bfV .range [.int a, .int b, .int c] σ = some (.ok (.rng a b c), σ) := if_pos ⟨h1, h2⟩
theorem iV_lst (σ : St) (vs : List V) (k : Int) : idxV σ (.lst vs) (.int k) = (place k vs.length).bind (vs[·]?) := rfl
theorem iV_tup (σ : St) (vs : List V) (k : Int) : idxV σ (.tup vs) (.int k) = (place k vs.length).bind (vs[·]?) := rfl
theorem iV_str (σ : St) (s : Str) (k : Int) : idxV σ (.str s) (.int k) = (place k s.cps.size).bind fun j => (s.cps[j]?).map fun c => .str ⟨#[c]⟩ := rfl
theorem place_nat (k : Nat) (m : Nat) (h : k < m) (h2 : k < 1152921504606846976) : place (k : Int) m = some k := by
  unfold place
  rw [if_pos (by omega), if_pos (by omega), if_pos (by omega)]; rfl
theorem place_last (m : Nat) (h : 0 < m) : place (-1) m = some (m - 1) := by
  unfold place
  rw [if_pos (by decide), if_neg (by decide), if_pos (by omega)]
  congr 1; omega

section
variable (P : Prog) (cl : Cl) (hd : Bool) (ρ : Rho) (σ : St)
theorem e_comp {mt : Bool} {elt it cond : E} {k : Nat} {itv : V} {σ₁ σ₂ : St} {items xs : List V} (h1 : ev P cl false it ρ σ = some (.ok itv, σ₁)) (h2 : itemsOf σ₁ itv = some items)
    (h3 : compL (fun v σ => ev P cl false cond (upd ρ k v) σ) (fun v σ => ev P cl false elt (upd ρ k v) σ) items (lockV σ₁ itv) = some (.ok xs, σ₂)) :
    ev P cl false (.comp mt elt k it cond) ρ σ = mkL mt xs (unlockV σ₁ itv σ₂) := by
  rw [e_comp0, h1]
  simp only [Bool.false_eq_true, if_false, bindM_ok, h2, h3]
theorem x_for1 {k : Nat} {it : E} {b : List S} {itv : V} {σ₁ : St} {items : List V} {r : RS} (h1 : ev P cl hd it ρ σ = some (.ok itv, σ₁)) (h2 : itersOf hd σ₁ itv = some items)
    (h3 : loop (fun v ρ σ => execs P cl hd b (upd ρ k v) σ) items ρ (lockV σ₁ itv) = r) : exec P cl hd (.for1 k it b) ρ σ = loopEnd hd σ₁ itv r := by
  rw [x_for1e, h1, bindE_ok, h2]
  simp only [h3]
end
theorem len_app (a b : Str) : (a ++ b).length = a.length + b.length := by
  show (a.cps ++ b.cps).size = _
  rw [Array.size_append]; rfl
theorem sl_str (mt : Bool) (s : Str) (lo hi : V) (σ : St) (a b : Nat) (h1 : clampLo lo s.cps.size = some a) (h2 : clampHi hi s.cps.size = some b) : sliceV mt (.str s) lo hi σ = some (.ok (.str ⟨(cutL s.cps.toList a b).toArray⟩), σ) := by
  simp only [sliceV, h1, h2]
theorem cut_len {α : Type} (xs : List α) (a b : Nat) : (cutL xs a b).length ≤ xs.length := by
  unfold cutL; simp; omega
theorem cutS_len (s : Str) (a b : Nat) : (⟨(cutL s.cps.toList a b).toArray⟩ : Str).length ≤ s.length := by
  have := cut_len s.cps.toList a b
  simpa [Str.length] using this
theorem cl_none (n : Nat) : clampLo .none n = some 0 := rfl
theorem ch_none (n : Nat) : clampHi .none n = some n := rfl
theorem cl_int (i : Int) (n : Nat) (h : 0 ≤ i) : clampLo (.int i) n = some (min i.toNat n) := if_pos h
theorem ch_int (i : Int) (n : Nat) (h : 0 ≤ i) : clampHi (.int i) n = some (min i.toNat n) := if_pos h
theorem place_mod {c k : Int} (hk : 0 < k) (hk2 : k < 2 ^ 30) {m : Nat} (hm : k ≤ m) : ∃ j : Nat, place (c % k) m = some j ∧ (j : Int) = c % k ∧ (j : Int) < k := by
  have h1 := Int.emod_nonneg c (show k ≠ 0 by omega)
  have h2 := Int.emod_lt_of_pos c hk
  refine ⟨(c % k).toNat, ?_, by omega, by omega⟩
  unfold place
  rw [if_pos (by omega), if_pos h1, if_pos (by omega)]
theorem get_lt {α : Type} (l : List α) (j : Nat) (h : j < l.length) : ∃ x, l[j]? = some x ∧ x ∈ l := ⟨l[j], List.getElem?_eq_getElem h, List.getElem_mem h⟩

theorem St.ext' {a b : St} (h1 : a.n = b.n) (h2 : ∀ j, a.f j = b.f j) : a = b := by
  obtain ⟨n, f⟩ := a
  obtain ⟨m, g⟩ := b
  simp only at h1 h2
  subst h1
  have : f = g := funext h2
  subst this; rfl
theorem set_set (σ : St) (i : Nat) (o o' : O) : (σ.set i o).set i o' = σ.set i o' := St.ext' rfl fun j => by
  show (if j = i then some o' else if j = i then some o else σ.f j) = (if j = i then some o' else σ.f j)
  split <;> rfl
theorem set_same (σ : St) (i : Nat) (o : O) (h : σ.get i = some o) : σ.set i o = σ := St.ext' rfl fun j => by
  show (if j = i then some o else σ.f j) = σ.f j
  split
  · rename_i e; subst e; exact h.symm
  · rfl
theorem set_comm (σ : St) (i j : Nat) (o o' : O) (h : i ≠ j) : (σ.set i o).set j o' = (σ.set j o').set i o := St.ext' rfl fun k => by
  show (if k = j then some o' else if k = i then some o else σ.f k) = (if k = i then some o else if k = j then some o' else σ.f k)
  by_cases h1 : k = i
  · have h2 : k ≠ j := fun e => h (h1.symm.trans e)
    rw [if_neg h2, if_pos h1, if_pos h1]
  · by_cases h2 : k = j
    · rw [if_pos h2, if_neg h1, if_pos h2]
    · rw [if_neg h2, if_neg h1, if_neg h1, if_neg h2]
theorem new_set (σ : St) (o o' : O) : (σ.new o).set σ.n o' = σ.new o' := St.ext' rfl fun j => by
  show (if j = σ.n then some o' else if j = σ.n then some o else σ.f j) = (if j = σ.n then some o' else σ.f j)
  split <;> rfl

theorem loop_ind {f : V → Rho → St → RS} {I : Nat → Rho → St → Prop} : ∀ (items : List V) (k : Nat), (∀ i v, items[i]? = some v → ∀ ρ σ, I (k + i) ρ σ → ∃ ρ' σ', I (k + i + 1) ρ' σ' ∧ f v ρ σ = some (.next, ρ', σ')) →
    ∀ ρ σ, I k ρ σ → ∃ ρ' σ', I (k + items.length) ρ' σ' ∧ loop f items ρ σ = some (.next, ρ', σ')
  | [], k, _, ρ, σ, h => ⟨ρ, σ, h, rfl⟩
  | v :: r, k, h, ρ, σ, h0 => by
    obtain ⟨ρ₁, σ₁, h1, e⟩ := h 0 v rfl ρ σ h0
    obtain ⟨ρ₂, σ₂, h2, e2⟩ := loop_ind r (k + 1) (fun i u hu ρ σ hI => by
      have := h (i + 1) u (by simpa using hu) ρ σ (by rw [show k + (i + 1) = k + 1 + i by omega]; exact hI)
      rw [show k + (i + 1) + 1 = k + 1 + i + 1 by omega] at this; exact this) ρ₁ σ₁ h1
    refine ⟨ρ₂, σ₂, by rw [List.length_cons, show k + (r.length + 1) = k + 1 + r.length by omega]; exact h2, ?_⟩
    rw [loop, e]; exact e2
theorem loop_ret {f : V → Rho → St → RS} {I : Nat → Rho → St → Prop} {D : V → St → Prop} : ∀ (items : List V) (k : Nat), (∀ i v, items[i]? = some v → ∀ ρ σ, I (k + i) ρ σ → (∃ ρ' σ', I (k + i + 1) ρ' σ' ∧ f v ρ σ = some (.next, ρ', σ')) ∨ ∃ x ρ' σ', D x σ' ∧ f v ρ σ = some (.ret x, ρ', σ')) →
    ∀ ρ σ, I k ρ σ → (∃ ρ' σ', I (k + items.length) ρ' σ' ∧ loop f items ρ σ = some (.next, ρ', σ')) ∨ ∃ x ρ' σ', D x σ' ∧ loop f items ρ σ = some (.ret x, ρ', σ')
  | [], k, _, ρ, σ, h => .inl ⟨ρ, σ, h, rfl⟩
  | v :: r, k, h, ρ, σ, h0 => by
    rcases h 0 v rfl ρ σ h0 with ⟨ρ₁, σ₁, h1, e⟩ | ⟨x, ρ₁, σ₁, h1, e⟩
    · rcases loop_ret r (k + 1) (fun i u hu ρ σ hI => by
        have := h (i + 1) u (by simpa using hu) ρ σ (by rw [show k + (i + 1) = k + 1 + i by omega]; exact hI)
        rw [show k + (i + 1) + 1 = k + 1 + i + 1 by omega] at this; exact this) ρ₁ σ₁ h1 with ⟨ρ₂, σ₂, h2, e2⟩ | ⟨x, ρ₂, σ₂, h2, e2⟩
      · exact .inl ⟨ρ₂, σ₂, by rw [List.length_cons, show k + (r.length + 1) = k + 1 + r.length by omega]; exact h2, by rw [loop, e]; exact e2⟩
      · exact .inr ⟨x, ρ₂, σ₂, h2, by rw [loop, e]; exact e2⟩
    · exact .inr ⟨x, ρ₁, σ₁, h1, by rw [loop, e]⟩

theorem data_ref {σ : St} {i n : Nat} {l : Bool} {vs : List V} {ds : List PyData} (h : σ.get i = some (.list l vs)) (e : mapO (dataOf σ n) vs = some ds) : dataOf σ (n + 1) (.ref i) = some (.list ds) := by
  show (match σ.get i with | some (.list _ vs) => (mapO (dataOf σ n) vs).map PyData.list | _ => none) = _
  rw [h]
  show (mapO (dataOf σ n) vs).map PyData.list = _
  rw [e]; rfl
theorem data_lst {σ : St} {n : Nat} {vs : List V} {ds : List PyData} (e : mapO (dataOf σ n) vs = some ds) : dataOf σ (n + 1) (.lst vs) = some (.list ds) := by
  show (mapO (dataOf σ n) vs).map PyData.list = _
  rw [e]; rfl
theorem eq_of {σ : St} {a b : V} {x y : PyData} (ha : dataOf σ 6 a = some x) (hb : dataOf σ 6 b = some y) : eqV σ a b = some (PyData.eqv x y) := by
  unfold eqV; rw [ha, hb]
theorem eq_same {σ : St} {i : Nat} {l : Bool} {vs : List V} (h : σ.get i = some (.list l vs)) (hd : ∃ ds, mapO (dataOf σ 5) vs = some ds) : eqV σ (.ref i) (.lst vs) = some true := by
  obtain ⟨ds, e⟩ := hd
  rw [eq_of (data_ref h e) (data_lst e)]
  exact congrArg some (eqv_data 6 _ _ (data_lst (σ := σ) e))
theorem eq_nil {σ : St} {i : Nat} {l : Bool} {vs : List V} (h : σ.get i = some (.list l vs)) (hd : ∃ ds, mapO (dataOf σ 5) vs = some ds ∧ ds.length = vs.length) : eqV σ (.ref i) (.lst []) = some (decide (vs = [])) := by
  obtain ⟨ds, e, hl⟩ := hd
  rw [eq_of (data_ref h e) (data_lst (vs := []) (ds := []) rfl)]
  cases vs with
  | nil => cases ds with
    | nil => rfl
    | cons => simp at hl
  | cons v r => cases ds with
    | nil => simp at hl
    | cons => rfl
theorem prefix_take : ∀ (p k : List Nat), p.isPrefixOf k = decide (k.take p.length = p)
  | [], k => by simp
  | a :: p, [] => by simp
  | a :: p, b :: k => by
    rw [List.isPrefixOf, prefix_take p k]
    by_cases h : a = b
    · subst h; simp
    · have h' : ¬ b = a := fun e => h e.symm
      simp [h, h']

theorem rng_get {a b c : Int} {i : Nat} {v : V} (h : (rngList a b c)[i]? = some v) : i < ((b - a + c - 1) / c).toNat ∧ v = .int (a + c * (i : Int)) := by
  unfold rngList at h
  rw [List.getElem?_map, Option.map_eq_some_iff] at h
  obtain ⟨j, hj, rfl⟩ := h
  have hi : i < ((b - a + c - 1) / c).toNat := by
    have := (List.getElem?_eq_some_iff.mp hj).1
    simpa using this
  rw [List.getElem?_range hi] at hj
  cases hj
  exact ⟨hi, rfl⟩
theorem rng_items {σ : St} {a b c : Int} (h1 : 0 < c) (h2 : a.natAbs < 2 ^ 60) (h3 : b.natAbs < 2 ^ 60) (h4 : c < 2 ^ 60) (h5 : ((b - a + c - 1) / c).toNat ≤ lim) : itemsOf σ (.rng a b c) = some (rngList a b c) := if_pos ⟨h1, h2, h3, h4, h5⟩
theorem is_ii (P : Prog) (σ : St) (i : Int) : isinstV P σ (.int i) .int = some true := rfl
theorem is_ib (P : Prog) (σ : St) (i : Int) : isinstV P σ (.int i) .bool = some false := rfl
theorem is_ss (P : Prog) (σ : St) (i : Str) : isinstV P σ (.str i) .str = some true := rfl
theorem is_tt (P : Prog) (σ : St) (i : List V) : isinstV P σ (.tup i) .tuple = some true := rfl
theorem is_ll (P : Prog) (σ : St) (i : List V) : isinstV P σ (.lst i) .list = some true := rfl
theorem is_bb (P : Prog) (σ : St) (i : Bool) : isinstV P σ (.bool i) .bool = some true := rfl
theorem is_rl (P : Prog) {σ : St} {a : Nat} {l : Bool} {vs : List V} (h : σ.get a = some (.list l vs)) : isinstV P σ (.ref a) .list = some true := by
  show (match σ.get a with | some (.list _ _) => some true | _ => none) = some true
  rw [h]
theorem len_ref {σ : St} {r : Nat} {lk : Bool} {rs : List V} (h : σ.get r = some (.list lk rs)) : bfV .len [.ref r] σ = some (.ok (.int rs.length), σ) := by
  show Option.map _ ((σ.get r).bind O.len) = _
  rw [h]; rfl
theorem append_ref {σ : St} {r : Nat} {rs : List V} {v : V} (h : σ.get r = some (.list false rs)) (hl : rs.length < lim) : bmV .append (.ref r) [v] σ = some (.ok .none, σ.set r (.list false (rs ++ [v]))) := by
  show Option.bind ((σ.get r).bind O.free) _ = _
  rw [h]; exact if_pos hl
theorem clear_ref {σ : St} {r : Nat} {rs : List V} (h : σ.get r = some (.list false rs)) : bmV .clear (.ref r) [] σ = some (.ok .none, σ.set r (.list false [])) := by
  show Option.map _ ((σ.get r).bind O.free) = _
  rw [h]; rfl
theorem isL_ref {σ : St} {r : Nat} {lk : Bool} {rs : List V} (h : σ.get r = some (.list lk rs)) : isListV σ (.ref r) = true := by
  show (match σ.get r with | some (.list _ _) => true | _ => false) = true
  rw [h]
theorem st_str (s p : Str) (σ : St) : bmV .startswith (.str s) [.str p] σ = some (.ok (.bool (p.cps.toList.isPrefixOf s.cps.toList)), σ) := rfl
end Lw
namespace Lw.L02
open PySem
noncomputable def f__law_whole : Fn := ⟨["_law_found"], [], [.ret (.bool true [(.isinst (.var 0) .int), (.not (.isinst (.var 0) .bool))])]⟩
noncomputable def f__law_cell_at : Fn := ⟨["_law_script", "_law_k"], [], [.ite (.cmp .lt (.var 1) (.bcall .len [(.var 0)])) [.ret (.idx (.var 0) (.var 1))] [],
  .ret (.cInt 0)]⟩
noncomputable def f__law_sign : Fn := ⟨["_law_cell"], [], [.assign 1 (.cStr " !\"#$&'()*+,-./0123456789:;<=>?@ABCDEFGHIJKLMNOPQRSTUVWXYZ[\\]^_`"),
  .assign 1 (.bin .add (.var 1) (.cStr "abcdefghijklmnopqrstuvwxyz{|}~")),
  .ret (.idx (.var 1) (.bin .mod (.var 0) (.cInt 94)))]⟩
noncomputable def f__law_text : Fn := ⟨["_law_cell", "_law_size"], [], [.ret (.bmeth .join (.cStr "") [(.comp false (.fcall "_law_sign" [(.bin .add (.var 0) (.bin .mul (.bin .mul (.cInt 7) (.var 2)) (.var 2)))]) 2 (.bcall .range [(.var 1)]) (.cBool true))])]⟩
noncomputable def f__law_pool : Fn := ⟨["_law_cell", "_law_other"], [], [.assign 2 (.fcall "_law_text" [(.var 0), (.idx (.list false [(.bin .add (.cInt 1) (.bin .mod (.var 0) (.cInt 4))), (.bin .add (.cInt 1) (.bin .mod (.var 0) (.cInt 18)))]) (.bin .mod (.bin .fdiv (.var 0) (.cInt 4)) (.cInt 2)))]),
  .assign 3 (.fcall "_law_sign" [(.var 1)]),
  .assign 4 (.fcall "_law_sign" [(.bin .fdiv (.var 1) (.cInt 94))]),
  .assign 5 (.bin .mod (.bin .fdiv (.var 1) (.cInt 8836)) (.bin .add (.bcall .len [(.var 2)]) (.cInt 1))),
  .ret (.list false [(.var 2), (.bin .add (.var 2) (.var 3)), (.bin .add (.bin .add (.slice false (.var 2) .cNone (.var 5)) (.var 4)) (.slice false (.var 2) (.var 5) .cNone)), (.var 3), (.bin .add (.var 4) (.var 2)), (.fcall "_law_text" [(.var 1), (.bin .sub (.cInt 20) (.bin .mod (.var 1) (.cInt 3)))])])]⟩
noncomputable def f__law_prefix : Fn := ⟨["_law_pool_here", "_law_cell"], [], [.ret (.idx (.list false [.cStr "", .cStr "", (.idx (.var 0) (.cInt 0)), (.idx (.var 0) (.cInt 3)), (.idx (.var 0) (.cInt 1)), (.slice false (.idx (.var 0) (.cInt 4)) .cNone (.cInt 1)), (.idx (.var 0) (.cInt 5))]) (.bin .mod (.var 1) (.cInt 7)))]⟩
noncomputable def f__law_change : Fn := ⟨["_law_found"], [], [.ite (.bool false [(.not (.isinst (.var 0) .tuple)), (.cmp .ne (.bcall .len [(.var 0)]) (.cInt 5))]) [.ret (.cBool false)] [],
  .ite (.bool false [(.not (.fcall "_law_whole" [(.idx (.var 0) (.cInt 0))])), (.not (.fcall "_law_whole" [(.idx (.var 0) (.cInt 1))]))]) [.ret (.cBool false)] [],
  .ret (.bool true [(.isinst (.idx (.var 0) (.cInt 2)) .str), (.isinst (.idx (.var 0) (.cInt 3)) .str), (.isinst (.idx (.var 0) (.cInt 4)) .str)])]⟩
noncomputable def f__law_changes : Fn := ⟨["_law_found", "_law_due"], [], [.ite (.bool false [(.not (.isinst (.var 0) .list)), (.cmp .ne (.bcall .len [(.var 0)]) (.bcall .len [(.var 1)]))]) [.ret (.cBool false)] [],
  .for1 2 (.var 0) [.ite (.not (.fcall "_law_change" [(.var 2)])) [.ret (.cBool false)] []],
  .assign 3 (.cmp .eq (.var 0) (.var 1)),
  .expr (.bmeth .clear (.var 0) []),
  .ret (.var 3)]⟩
noncomputable def f__law_wanted : Fn := ⟨["_law_mine", "_law_prefix_here", "_law_behind", "_law_most"], [], [.assign 4 (.list true []),
  .for1 5 (.slice false (.idx (.var 0) (.cStr "rows")) (.idx (.var 0) (.cStr "gone")) .cNone) [.ite (.bool true [(.cmp .gt (.idx (.var 5) (.cInt 0)) (.var 2)), (.cmp .eq (.slice false (.idx (.var 5) (.cInt 3)) .cNone (.bcall .len [(.var 1)])) (.var 1))]) [.expr (.bmeth .append (.var 4) [(.var 5)])] []],
  .ret (.slice false (.var 4) .cNone (.var 3))]⟩
noncomputable def f__law_noted : Fn := ⟨["_law_log", "_law_mine", "_law_pool_here", "_law_cell", "_law_more"], [], [.assign 5 (.fcall "_law_text" [(.var 4), (.idx (.list false [(.bin .mod (.var 3) (.cInt 5)), (.bin .mod (.var 4) (.cInt 41))]) (.bin .fdiv (.bin .mod (.bin .fdiv (.var 3) (.cInt 12)) (.cInt 5)) (.cInt 4)))]),
  .assign 6 (.bin .mod (.var 4) (.cInt 1000)),
  .ite (.cmp .ne (.idx (.var 1) (.cStr "rows")) (.list false [])) [.assign 6 (.bin .add (.bin .mod (.var 6) (.cInt 7)) (.idx (.idx (.idx (.var 1) (.cStr "rows")) (.neg (.cInt 1))) (.cInt 1)))] [],
  .assign 7 (.tup [(.bin .add (.bcall .len [(.idx (.var 1) (.cStr "rows"))]) (.cInt 1)), (.var 6), (.idx (.list false [.cStr "put", .cStr "cut"]) (.bin .mod (.var 3) (.cInt 2))), (.idx (.var 2) (.bin .mod (.bin .fdiv (.var 3) (.cInt 2)) (.cInt 6))), (.idx (.list false [(.var 5), .cStr ""]) (.bin .mod (.var 3) (.cInt 2)))]),
  .expr (.bmeth .append (.idx (.var 1) (.cStr "rows")) [(.var 7)]),
  .assign 8 (.mcall (.var 0) "note" [(.idx (.var 7) (.cInt 1)), (.idx (.var 7) (.cInt 2)), (.idx (.var 7) (.cInt 3)), (.idx (.var 7) (.cInt 4))] [] []),
  .ret (.bool true [(.fcall "_law_whole" [(.var 8)]), (.cmp .eq (.var 8) (.idx (.var 7) (.cInt 0)))])]⟩
noncomputable def f__law_forgot : Fn := ⟨["_law_log", "_law_mine", "_law_cell"], [], [.assign 3 (.bin .mod (.var 2) (.bin .add (.bcall .len [(.idx (.var 1) (.cStr "rows"))]) (.cInt 3))),
  .assign 4 (.bcall .max [.cInt 0, (.bin .sub (.bcall .min [(.var 3), (.bcall .len [(.idx (.var 1) (.cStr "rows"))])]) (.idx (.var 1) (.cStr "gone")))]),
  .setidx (.var 1) (.cStr "gone") (.bin .add (.idx (.var 1) (.cStr "gone")) (.var 4)),
  .assign 5 (.mcall (.var 0) "forget" [(.var 3)] [] []),
  .ret (.bool true [(.fcall "_law_whole" [(.var 5)]), (.cmp .eq (.var 5) (.var 4))])]⟩
noncomputable def f__law_ends : Fn := ⟨["_law_log", "_law_mine"], [], [.assign 2 (.mcall (.var 0) "last" [] [] []),
  .assign 3 (.mcall (.var 0) "first" [] [] []),
  .ite (.bool false [(.not (.fcall "_law_whole" [(.var 2)])), (.not (.fcall "_law_whole" [(.var 3)]))]) [.ret (.cBool false)] [],
  .ret (.bool true [(.cmp .eq (.var 2) (.bcall .len [(.idx (.var 1) (.cStr "rows"))])), (.cmp .eq (.var 3) (.bin .add (.idx (.var 1) (.cStr "gone")) (.cInt 1)))])]⟩
noncomputable def f__law_step : Fn := ⟨["_law_log", "_law_mine", "_law_pool_here", "_law_kind", "_law_cell"], [], [.ite (.cmp .eq (.bin .mod (.bin .fdiv (.var 3) (.cInt 2)) (.cInt 4)) (.cInt 0)) [.ret (.fcall "_law_forgot" [(.var 0), (.var 1), (.var 4)])] [],
  .ite (.cmp .eq (.bin .mod (.bin .fdiv (.var 3) (.cInt 2)) (.cInt 4)) (.cInt 1)) [.assign 5 (.fcall "_law_prefix" [(.var 2), (.bin .fdiv (.var 3) (.cInt 8))]), .assign 6 (.bin .mod (.var 4) (.bin .add (.bcall .len [(.idx (.var 1) (.cStr "rows"))]) (.cInt 2))), .assign 7 (.idx (.list false [(.bin .mod (.bin .fdiv (.var 3) (.cInt 56)) (.cInt 5)), (.bin .mod (.bin .fdiv (.var 3) (.cInt 56)) (.cInt 97))]) (.bin .mod (.var 4) (.cInt 2))), .ret (.fcall "_law_changes" [(.mcall (.var 0) "wanted" [(.var 5), (.var 6), (.var 7)] [] []), (.fcall "_law_wanted" [(.var 1), (.var 5), (.var 6), (.var 7)])])] [],
  .ret (.fcall "_law_noted" [(.var 0), (.var 1), (.var 2), (.bin .fdiv (.var 3) (.cInt 8)), (.bcall .abs [(.var 4)])])]⟩
noncomputable def f_law : Fn := ⟨["_law_script"], [], [.assign 1 (.list false [(.new "Log" [] [] []), (.new "Log" [] [] [])]),
  .assign 2 (.list false [(.dict ["rows", "gone", "told"] [(.list true []), .cInt 0, (.list true [])]), (.dict ["rows", "gone", "told"] [(.list true []), .cInt 0, (.list true [])])]),
  .assign 3 (.fcall "_law_pool" [(.fcall "_law_cell_at" [(.var 0), .cInt 0]), (.fcall "_law_cell_at" [(.var 0), .cInt 1])]),
  .ite (.cmp .eq (.bin .mod (.fcall "_law_cell_at" [(.var 0), .cInt 0]) (.cInt 6)) (.cInt 0)) [.for1 4 (.bcall .range [.cInt 240]) [.ite (.not (.fcall "_law_noted" [(.idx (.var 1) (.bin .mod (.var 4) (.cInt 2))), (.idx (.var 2) (.bin .mod (.var 4) (.cInt 2))), (.var 3), (.bin .add (.bin .mul (.var 4) (.cInt 5)) (.cInt 1)), (.var 4)])) [.ret (.cBool false)] []]] [],
  .for1 4 (.bcall .range [.cInt 2, (.bin .sub (.bcall .len [(.var 0)]) (.cInt 1)), .cInt 2]) [.assign 5 (.bin .mod (.idx (.var 0) (.var 4)) (.cInt 2)), .ite (.not (.fcall "_law_step" [(.idx (.var 1) (.var 5)), (.idx (.var 2) (.var 5)), (.var 3), (.idx (.var 0) (.var 4)), (.idx (.var 0) (.bin .add (.var 4) (.cInt 1)))])) [.ret (.cBool false)] [], .ite (.bool false [(.not (.fcall "_law_ends" [(.idx (.var 1) (.cInt 0)), (.idx (.var 2) (.cInt 0))])), (.not (.fcall "_law_ends" [(.idx (.var 1) (.cInt 1)), (.idx (.var 2) (.cInt 1))]))]) [.ret (.cBool false)] [], .assign 6 (.idx (.idx (.var 2) (.var 5)) (.cStr "rows")), .assign 7 (.mcall (.idx (.var 1) (.var 5)) "wanted" [.cStr "", .cInt 0, (.bin .pow (.cInt 10) (.cInt 6))] [] []), .ite (.bool false [(.cmp .ne (.idx (.idx (.var 2) (.var 5)) (.cStr "told")) (.list false [])), (.not (.fcall "_law_changes" [(.var 7), (.slice false (.var 6) (.idx (.idx (.var 2) (.var 5)) (.cStr "gone")) .cNone)]))]) [.ret (.cBool false)] [], .setidx (.idx (.var 2) (.var 5)) (.cStr "told") (.var 7)],
  .ret (.fcall "_law_ends" [(.idx (.var 1) (.cInt 0)), (.idx (.var 2) (.cInt 0))])]⟩
noncomputable def f_Log___init__ : Fn := ⟨["self"], [], [.setattr (.var 0) "gone" (.cInt 0),
  .setattr (.var 0) "rows" (.list true [])]⟩
noncomputable def f_Log_last : Fn := ⟨["self"], [], [.ret (.bin .add (.attr (.var 0) "gone") (.bcall .len [(.attr (.var 0) "rows")]))]⟩
noncomputable def f_Log_first : Fn := ⟨["self"], [], [.ret (.bin .add (.attr (.var 0) "gone") (.cInt 1))]⟩
noncomputable def f_Log_note : Fn := ⟨["self", "tick", "word", "key", "value"], [], [.assign 5 (.bin .add (.mcall (.var 0) "last" [] [] []) (.cInt 1)),
  .expr (.bmeth .append (.attr (.var 0) "rows") [(.tup [(.var 5), (.var 1), (.var 2), (.var 3), (.var 4)])]),
  .ret (.var 5)]⟩
noncomputable def f_Log_wanted : Fn := ⟨["self", "prefix", "behind", "most"], [], [.assign 4 (.list true []),
  .for1 5 (.attr (.var 0) "rows") [.ite (.cmp .ge (.bcall .len [(.var 4)]) (.var 3)) [.ret (.var 4)] [], .ite (.bool true [(.cmp .gt (.idx (.var 5) (.cInt 0)) (.var 2)), (.bmeth .startswith (.idx (.var 5) (.cInt 3)) [(.var 1)])]) [.expr (.bmeth .append (.var 4) [(.var 5)])] []],
  .ret (.var 4)]⟩
noncomputable def f_Log_forget : Fn := ⟨["self", "upto"], [], [.assign 2 (.bin .sub (.bcall .min [(.var 1), (.mcall (.var 0) "last" [] [] [])]) (.attr (.var 0) "gone")),
  .ite (.cmp .le (.var 2) (.cInt 0)) [.ret (.cInt 0)] [],
  .setattr (.var 0) "rows" (.slice true (.attr (.var 0) "rows") (.var 2) .cNone),
  .setattr (.var 0) "gone" (.bin .add (.attr (.var 0) "gone") (.var 2)),
  .ret (.var 2)]⟩
noncomputable def tbl : List Ent := [⟨"", "_law_whole", f__law_whole, [("_law_found", 0)]⟩,
  ⟨"", "_law_cell_at", f__law_cell_at, [("_law_script", 0), ("_law_k", 1)]⟩,
  ⟨"", "_law_sign", f__law_sign, [("_law_cell", 0), ("_law_some", 1)]⟩,
  ⟨"", "_law_text", f__law_text, [("_law_cell", 0), ("_law_size", 1)]⟩,
  ⟨"", "_law_pool", f__law_pool, [("_law_cell", 0), ("_law_other", 1), ("_law_first", 2), ("_law_one", 3), ("_law_two", 4), ("_law_at", 5)]⟩,
  ⟨"", "_law_prefix", f__law_prefix, [("_law_pool_here", 0), ("_law_cell", 1)]⟩,
  ⟨"", "_law_change", f__law_change, [("_law_found", 0)]⟩,
  ⟨"", "_law_changes", f__law_changes, [("_law_found", 0), ("_law_due", 1), ("_law_one", 2), ("_law_good", 3)]⟩,
  ⟨"", "_law_wanted", f__law_wanted, [("_law_mine", 0), ("_law_prefix_here", 1), ("_law_behind", 2), ("_law_most", 3), ("_law_due", 4), ("_law_row", 5)]⟩,
  ⟨"", "_law_noted", f__law_noted, [("_law_log", 0), ("_law_mine", 1), ("_law_pool_here", 2), ("_law_cell", 3), ("_law_more", 4), ("_law_value", 5), ("_law_tick", 6), ("_law_row", 7), ("_law_found", 8)]⟩,
  ⟨"", "_law_forgot", f__law_forgot, [("_law_log", 0), ("_law_mine", 1), ("_law_cell", 2), ("_law_upto", 3), ("_law_due", 4), ("_law_found", 5)]⟩,
  ⟨"", "_law_ends", f__law_ends, [("_law_log", 0), ("_law_mine", 1), ("_law_last", 2), ("_law_first", 3)]⟩,
  ⟨"", "_law_step", f__law_step, [("_law_log", 0), ("_law_mine", 1), ("_law_pool_here", 2), ("_law_kind", 3), ("_law_cell", 4), ("_law_prefix_here", 5), ("_law_behind", 6), ("_law_most", 7)]⟩,
  ⟨"", "law", f_law, [("_law_script", 0), ("_law_logs", 1), ("_law_mine", 2), ("_law_pool_here", 3), ("_law_k", 4), ("_law_which", 5), ("_law_rows", 6), ("_law_found", 7)]⟩,
  ⟨"Log", "__init__", f_Log___init__, [("self", 0)]⟩,
  ⟨"Log", "last", f_Log_last, [("self", 0)]⟩,
  ⟨"Log", "first", f_Log_first, [("self", 0)]⟩,
  ⟨"Log", "note", f_Log_note, [("self", 0), ("tick", 1), ("word", 2), ("key", 3), ("value", 4), ("number", 5)]⟩,
  ⟨"Log", "wanted", f_Log_wanted, [("self", 0), ("prefix", 1), ("behind", 2), ("most", 3), ("found", 4), ("row", 5)]⟩,
  ⟨"Log", "forget", f_Log_forget, [("self", 0), ("upto", 1), ("many", 2)]⟩]
noncomputable def com : Com := ⟨["_law_whole", "_law_cell_at", "_law_sign", "_law_text", "_law_pool", "_law_prefix", "_law_change", "_law_changes", "_law_wanted", "_law_noted", "_law_forgot", "_law_ends", "_law_step", "law"], ["Log"], [], ["gone", "rows"], ["abs", "bool", "int", "isinstance", "len", "list", "max", "min", "range", "str", "tuple"], []⟩
end Lw.L02
namespace Lw.L02
open PySem
noncomputable def P : Prog := progOf tbl (fun _ _ => false)

theorem whole_int (n : Nat) (hd : Bool) (i : Int) (σ : St) : run P (n + 1) hd "" "_law_whole" [.int i] [] σ = some (.ok (.bool true), σ) := by
  rw [run_call (fn := f__law_whole) (vs := [.int i]) rfl rfl rfl]
  simp [f__law_whole, execs, x_expr, x_assign, x_setattr, x_setidx, x_ite, x_ret, e_cNone, e_cBool, e_cInt, e_cStr, e_var, e_bin, e_cmp, e_bool, e_not, e_neg, e_fcall, e_new, e_mcall, e_bcall, e_bmeth, e_isinst, e_attr, e_idx, e_slice, e_list, e_tup, e_dict, evs, evBool, bindE_ok, bindM_ok, bindS_next, bindS_ret, fin_ret, fin_next, upd_at, rho_at, is_ii, is_ib, is_ss, is_tt, is_ll, is_bb, tV_bool, tV_int, bV_addI, bV_subI, bV_mulI, bV_fdivI, bV_modI, bV_powI, cV_lt, cV_le, cV_gt, cV_ge, cV_eqI, cV_neI, cV_eqS, cV_neS, bf_lenS, bf_lenL, bf_lenT, bf_min, bf_max, bf_abs, bf_r1, bf_r2, bf_r3, mkList, mkL, lim, Bf.long, Bm.long, Bool.not_true, Bool.not_false, if_true, if_false, reduceCtorEq, Option.map_some, Option.bind_some, Bool.false_and, Bool.true_and, Bool.and_true, Bool.and_false, Bool.or_false, Bool.or_true, Option.some.injEq, List.getElem?_cons_zero, List.getElem?_cons_succ, List.length_cons, List.length_nil, Nat.zero_add, Nat.reduceAdd, V.isNone, Bool.false_eq_true, and_self, ite_true, ite_false, decide_true, decide_false, Nat.succ_ne_zero, Nat.reduceEqDiff, Nat.reduceLeDiff, Bool.true_eq_false]

theorem sign_at (n : Nat) (hd : Bool) (i : Int) (σ : St) : ∃ c : Nat, run P (n + 1) hd "" "_law_sign" [.int i] [] σ = some (.ok (.str ⟨#[c]⟩), σ) := by
  rw [run_call (fn := f__law_sign) (vs := [.int i]) rfl rfl rfl]
  have hs : (Str.ofString " !\"#$&'()*+,-./0123456789:;<=>?@ABCDEFGHIJKLMNOPQRSTUVWXYZ[\\]^_`" ++ Str.ofString "abcdefghijklmnopqrstuvwxyz{|}~").cps.size = 94 := by decide +kernel
  have hl : (Str.ofString " !\"#$&'()*+,-./0123456789:;<=>?@ABCDEFGHIJKLMNOPQRSTUVWXYZ[\\]^_`").length + (Str.ofString "abcdefghijklmnopqrstuvwxyz{|}~").length ≤ lim := by decide +kernel
  obtain ⟨j, hj, hji, _⟩ := place_mod (c := i) (k := 94) (m := 94) (by decide) (by decide) (by decide)
  have h94 : j < 94 := by have := Int.emod_lt_of_pos i (show (0 : Int) < 94 by decide); omega
  have hg : ∃ c, (Str.ofString " !\"#$&'()*+,-./0123456789:;<=>?@ABCDEFGHIJKLMNOPQRSTUVWXYZ[\\]^_`" ++ Str.ofString "abcdefghijklmnopqrstuvwxyz{|}~").cps[j]? = some c := ⟨_, Array.getElem?_eq_getElem (by rw [hs]; exact h94)⟩
  obtain ⟨c, hc⟩ := hg
  refine ⟨c, ?_⟩
  simp only [f__law_sign, execs, x_expr, x_assign, x_setattr, x_setidx, x_ite, x_ret, e_cNone, e_cBool, e_cInt, e_cStr, e_var, e_bin, e_cmp, e_bool, e_not, e_neg, e_fcall, e_new, e_mcall, e_bcall, e_bmeth, e_isinst, e_attr, e_idx, e_slice, e_list, e_tup, e_dict, evs, evBool, bindE_ok, bindM_ok, bindS_next, bindS_ret, fin_ret, fin_next, upd_at, rho_at, is_ii, is_ib, is_ss, is_tt, is_ll, is_bb, tV_bool, tV_int, bV_addI, bV_subI, bV_mulI, bV_fdivI, bV_modI, bV_powI, cV_lt, cV_le, cV_gt, cV_ge, cV_eqI, cV_neI, cV_eqS, cV_neS, bf_lenS, bf_lenL, bf_lenT, bf_min, bf_max, bf_abs, bf_r1, bf_r2, bf_r3, mkList, mkL, lim, Bf.long, Bm.long, Bool.not_true, Bool.not_false, if_true, if_false, reduceCtorEq, Option.map_some, Option.bind_some, Bool.false_and, Bool.true_and, Bool.and_true, Bool.and_false, Bool.or_false, Bool.or_true, Option.some.injEq, List.getElem?_cons_zero, List.getElem?_cons_succ, List.length_cons, List.length_nil, Nat.zero_add, Nat.reduceAdd, V.isNone, Bool.false_eq_true, and_self, ite_true, ite_false, decide_true, decide_false, Nat.succ_ne_zero, Nat.reduceEqDiff, Nat.reduceLeDiff, Bool.true_eq_false, iV_str, bV_addS _ _ hl, Int.reduceLT, hs, hj, hc]

theorem asStrs_all : ∀ {xs : List V}, (∀ x ∈ xs, ∃ c : Nat, x = .str ⟨#[c]⟩) → ∃ ss, asStrs xs = some ss ∧ ss.length = xs.length ∧ (ss.map (·.length)).sum = xs.length
  | [], _ => ⟨[], rfl, rfl, rfl⟩
  | x :: r, h => by
    obtain ⟨c, rfl⟩ := h x (by simp)
    obtain ⟨ss, e, hl, hs⟩ := asStrs_all (xs := r) fun y hy => h y (by simp [hy])
    refine ⟨⟨#[c]⟩ :: ss, ?_, by simp [hl], ?_⟩
    · unfold asStrs at *
      simp [mapO, e]
    · rw [List.map_cons, List.sum_cons, hs, List.length_cons]; show 1 + _ = _; omega

theorem text_at (n : Nat) (i k : Int) (σ : St) (hk : 0 ≤ k) (hk2 : k ≤ 1000) : ∃ s : Str, (s.cps.size : Int) = k ∧ run P (n + 2) false "" "_law_text" [.int i, .int k] [] σ = some (.ok (.str s), σ) := by
  rw [run_call (fn := f__law_text) (vs := [.int i, .int k]) rfl rfl rfl]
  have hr : itemsOf σ (.rng 0 k 1) = some (rngList 0 k 1) := by
    exact if_pos (by refine ⟨by decide, by decide, by omega, by decide, ?_⟩; unfold lim; omega)
  have hrl : (rngList 0 k 1).length = k.toNat := by
    unfold rngList; simp
  have hmem : ∀ v ∈ rngList 0 k 1, ∃ j : Nat, (j : Int) < k ∧ v = .int j := fun v hv => by
    unfold rngList at hv
    simp at hv
    obtain ⟨j, hj, rfl⟩ := hv
    exact ⟨j, by omega, rfl⟩
  obtain ⟨xs, hx, hl, hq⟩ := compL_all (σ := σ) (Q := fun x => ∃ c : Nat, x = .str ⟨#[c]⟩)
    (test := fun v σ => ev P (run P (n + 1)) false (.cBool true) (upd (rhoOf [.int i, .int k]) 2 v) σ)
    (elt := fun v σ => ev P (run P (n + 1)) false (.fcall "_law_sign" [(.bin .add (.var 0) (.bin .mul (.bin .mul (.cInt 7) (.var 2)) (.var 2)))]) (upd (rhoOf [.int i, .int k]) 2 v) σ) (rngList 0 k 1) (fun v hv => by
      obtain ⟨j, hj, rfl⟩ := hmem v hv
      refine ⟨rfl, ?_⟩
      obtain ⟨c, hc⟩ := sign_at n false (i + 7 * j * j) σ
      refine ⟨_, ⟨c, rfl⟩, ?_⟩
      have h1 : (7 : Int).natAbs < 1152921504606846976 := by decide
      have h2 : (j : Int).natAbs < 1152921504606846976 := by omega
      have h3 : (7 * (j : Int)).natAbs < 1152921504606846976 := by omega
      simp only [execs, x_expr, x_assign, x_setattr, x_setidx, x_ite, x_ret, e_cNone, e_cBool, e_cInt, e_cStr, e_var, e_bin, e_cmp, e_bool, e_not, e_neg, e_fcall, e_new, e_mcall, e_bcall, e_bmeth, e_isinst, e_attr, e_idx, e_slice, e_list, e_tup, e_dict, evs, evBool, bindE_ok, bindM_ok, bindS_next, bindS_ret, fin_ret, fin_next, upd_at, rho_at, is_ii, is_ib, is_ss, is_tt, is_ll, is_bb, tV_bool, tV_int, bV_addI, bV_subI, bV_mulI, bV_fdivI, bV_modI, bV_powI, cV_lt, cV_le, cV_gt, cV_ge, cV_eqI, cV_neI, cV_eqS, cV_neS, bf_lenS, bf_lenL, bf_lenT, bf_min, bf_max, bf_abs, bf_r1, bf_r2, bf_r3, mkList, mkL, lim, Bf.long, Bm.long, Bool.not_true, Bool.not_false, if_true, if_false, reduceCtorEq, Option.map_some, Option.bind_some, Bool.false_and, Bool.true_and, Bool.and_true, Bool.and_false, Bool.or_false, Bool.or_true, Option.some.injEq, List.getElem?_cons_zero, List.getElem?_cons_succ, List.length_cons, List.length_nil, Nat.zero_add, Nat.reduceAdd, V.isNone, Bool.false_eq_true, and_self, ite_true, ite_false, decide_true, decide_false, Nat.succ_ne_zero, Nat.reduceEqDiff, Nat.reduceLeDiff, Bool.true_eq_false, bV_mulI _ _ h1 h2, bV_mulI _ _ h3 h2]
      exact hc)
  obtain ⟨ss, e1, e2, e3⟩ := asStrs_all hq
  refine ⟨Str.join ⟨#[]⟩ ss, ?_, ?_⟩
  · rw [join_size, e3, hl, hrl]; omega
  · have hb : bmV .join (.str "") [.lst xs] σ = some (.ok (.str (Str.join ⟨#[]⟩ ss)), σ) := by
      have hlim : (ss.map (·.length)).sum + ss.length ≤ lim := by
        rw [e3, e2, hl, hrl]; unfold lim; omega
      show Option.bind (asStrs xs) _ = _
      rw [e1]; exact if_pos ⟨rfl, hlim⟩
    have hc := e_comp (mt := false) P (run P (n + 1)) (rhoOf [.int i, .int k]) σ (it := .bcall .range [(.var 1)]) (itv := .rng 0 k 1) (σ₁ := σ) (by simp only [execs, x_expr, x_assign, x_setattr, x_setidx, x_ite, x_ret, e_cNone, e_cBool, e_cInt, e_cStr, e_var, e_bin, e_cmp, e_bool, e_not, e_neg, e_fcall, e_new, e_mcall, e_bcall, e_bmeth, e_isinst, e_attr, e_idx, e_slice, e_list, e_tup, e_dict, evs, evBool, bindE_ok, bindM_ok, bindS_next, bindS_ret, fin_ret, fin_next, upd_at, rho_at, is_ii, is_ib, is_ss, is_tt, is_ll, is_bb, tV_bool, tV_int, bV_addI, bV_subI, bV_mulI, bV_fdivI, bV_modI, bV_powI, cV_lt, cV_le, cV_gt, cV_ge, cV_eqI, cV_neI, cV_eqS, cV_neS, bf_lenS, bf_lenL, bf_lenT, bf_min, bf_max, bf_abs, bf_r1, bf_r2, bf_r3, mkList, mkL, lim, Bf.long, Bm.long, Bool.not_true, Bool.not_false, if_true, if_false, reduceCtorEq, Option.map_some, Option.bind_some, Bool.false_and, Bool.true_and, Bool.and_true, Bool.and_false, Bool.or_false, Bool.or_true, Option.some.injEq, List.getElem?_cons_zero, List.getElem?_cons_succ, List.length_cons, List.length_nil, Nat.zero_add, Nat.reduceAdd, V.isNone, Bool.false_eq_true, and_self, ite_true, ite_false, decide_true, decide_false, Nat.succ_ne_zero, Nat.reduceEqDiff, Nat.reduceLeDiff, Bool.true_eq_false]) hr hx
    simp only [f__law_text, execs, x_expr, x_assign, x_setattr, x_setidx, x_ite, x_ret, e_cNone, e_cBool, e_cInt, e_cStr, e_var, e_bin, e_cmp, e_bool, e_not, e_neg, e_fcall, e_new, e_mcall, e_bcall, e_bmeth, e_isinst, e_attr, e_idx, e_slice, e_list, e_tup, e_dict, evs, evBool, bindE_ok, bindM_ok, bindS_next, bindS_ret, fin_ret, fin_next, upd_at, rho_at, is_ii, is_ib, is_ss, is_tt, is_ll, is_bb, tV_bool, tV_int, bV_addI, bV_subI, bV_mulI, bV_fdivI, bV_modI, bV_powI, cV_lt, cV_le, cV_gt, cV_ge, cV_eqI, cV_neI, cV_eqS, cV_neS, bf_lenS, bf_lenL, bf_lenT, bf_min, bf_max, bf_abs, bf_r1, bf_r2, bf_r3, mkList, mkL, lim, Bf.long, Bm.long, Bool.not_true, Bool.not_false, if_true, if_false, reduceCtorEq, Option.map_some, Option.bind_some, Bool.false_and, Bool.true_and, Bool.and_true, Bool.and_false, Bool.or_false, Bool.or_true, Option.some.injEq, List.getElem?_cons_zero, List.getElem?_cons_succ, List.length_cons, List.length_nil, Nat.zero_add, Nat.reduceAdd, V.isNone, Bool.false_eq_true, and_self, ite_true, ite_false, decide_true, decide_false, Nat.succ_ne_zero, Nat.reduceEqDiff, Nat.reduceLeDiff, Bool.true_eq_false, bmPre, isStrV, hc, unlockV, hb]

theorem cell_at (n : Nat) (hd : Bool) (ns : List Int) (k : Nat) (σ : St) (hk : k < 1000) : ∃ i : Int, run P (n + 1) hd "" "_law_cell_at" [.lst (ns.map .int), .int k] [] σ = some (.ok (.int i), σ) := by
  rw [run_call (fn := f__law_cell_at) (vs := [.lst (ns.map .int), .int k]) rfl rfl rfl]
  by_cases h : (k : Int) < ns.length
  · have hp := place_nat k ns.length (by omega) (by omega)
    refine ⟨ns[k]'(by omega), ?_⟩
    have hd : decide ((k : Int) < ns.length) = true := by simpa using h
    simp only [f__law_cell_at, execs, x_expr, x_assign, x_setattr, x_setidx, x_ite, x_ret, e_cNone, e_cBool, e_cInt, e_cStr, e_var, e_bin, e_cmp, e_bool, e_not, e_neg, e_fcall, e_new, e_mcall, e_bcall, e_bmeth, e_isinst, e_attr, e_idx, e_slice, e_list, e_tup, e_dict, evs, evBool, bindE_ok, bindM_ok, bindS_next, bindS_ret, fin_ret, fin_next, upd_at, rho_at, is_ii, is_ib, is_ss, is_tt, is_ll, is_bb, tV_bool, tV_int, bV_addI, bV_subI, bV_mulI, bV_fdivI, bV_modI, bV_powI, cV_lt, cV_le, cV_gt, cV_ge, cV_eqI, cV_neI, cV_eqS, cV_neS, bf_lenS, bf_lenL, bf_lenT, bf_min, bf_max, bf_abs, bf_r1, bf_r2, bf_r3, mkList, mkL, lim, Bf.long, Bm.long, Bool.not_true, Bool.not_false, if_true, if_false, reduceCtorEq, Option.map_some, Option.bind_some, Bool.false_and, Bool.true_and, Bool.and_true, Bool.and_false, Bool.or_false, Bool.or_true, Option.some.injEq, List.getElem?_cons_zero, List.getElem?_cons_succ, List.length_cons, List.length_nil, Nat.zero_add, Nat.reduceAdd, V.isNone, Bool.false_eq_true, and_self, ite_true, ite_false, decide_true, decide_false, Nat.succ_ne_zero, Nat.reduceEqDiff, Nat.reduceLeDiff, Bool.true_eq_false, iV_lst, List.length_map, hd, hp, List.getElem?_map, List.getElem?_eq_getElem (show k < ns.length by omega)]
  · refine ⟨0, ?_⟩
    have hd : decide ((k : Int) < ns.length) = false := by simpa using h
    simp only [f__law_cell_at, execs, x_expr, x_assign, x_setattr, x_setidx, x_ite, x_ret, e_cNone, e_cBool, e_cInt, e_cStr, e_var, e_bin, e_cmp, e_bool, e_not, e_neg, e_fcall, e_new, e_mcall, e_bcall, e_bmeth, e_isinst, e_attr, e_idx, e_slice, e_list, e_tup, e_dict, evs, evBool, bindE_ok, bindM_ok, bindS_next, bindS_ret, fin_ret, fin_next, upd_at, rho_at, is_ii, is_ib, is_ss, is_tt, is_ll, is_bb, tV_bool, tV_int, bV_addI, bV_subI, bV_mulI, bV_fdivI, bV_modI, bV_powI, cV_lt, cV_le, cV_gt, cV_ge, cV_eqI, cV_neI, cV_eqS, cV_neS, bf_lenS, bf_lenL, bf_lenT, bf_min, bf_max, bf_abs, bf_r1, bf_r2, bf_r3, mkList, mkL, lim, Bf.long, Bm.long, Bool.not_true, Bool.not_false, if_true, if_false, reduceCtorEq, Option.map_some, Option.bind_some, Bool.false_and, Bool.true_and, Bool.and_true, Bool.and_false, Bool.or_false, Bool.or_true, Option.some.injEq, List.getElem?_cons_zero, List.getElem?_cons_succ, List.length_cons, List.length_nil, Nat.zero_add, Nat.reduceAdd, V.isNone, Bool.false_eq_true, and_self, ite_true, ite_false, decide_true, decide_false, Nat.succ_ne_zero, Nat.reduceEqDiff, Nat.reduceLeDiff, Bool.true_eq_false, List.length_map, hd]

theorem drawn (σ : St) (vs : List V) (c k : Int) (hk : 0 < k) (hk2 : k < 2 ^ 30) (hm : k ≤ vs.length) : ∃ x ∈ vs, idxV σ (.lst vs) (.int (c % k)) = some x := by
  obtain ⟨j, hj, _, hj2⟩ := place_mod (c := c) hk hk2 hm
  obtain ⟨x, hx, hm⟩ := get_lt vs j (by omega)
  exact ⟨x, hm, by rw [iV_lst, hj]; exact hx⟩

theorem le_lim2 {a b : Nat} (ha : a ≤ 40) (hb : b ≤ 40) : a + b ≤ lim := Nat.le_trans (Nat.add_le_add ha hb) (by decide)

theorem pool_at (n : Nat) (c d : Int) (σ : St) : ∃ ss : List Str, ss.length = 6 ∧ run P (n + 3) false "" "_law_pool" [.int c, .int d] [] σ = some (.ok (.lst (ss.map .str)), σ) := by
  rw [run_call (fn := f__law_pool) (vs := [.int c, .int d]) rfl rfl rfl]
  obtain ⟨x, hx, hi⟩ := drawn σ [.int (1 + c % 4), .int (1 + c % 18)] (c / 4) 2 (by decide) (by decide) (by simp)
  have hk : ∃ k : Int, 0 ≤ k ∧ k ≤ 18 ∧ x = .int k := by
    simp only [List.mem_cons, List.not_mem_nil, or_false] at hx
    rcases hx with rfl | rfl
    · exact ⟨_, by omega, by omega, rfl⟩
    · exact ⟨_, by omega, by omega, rfl⟩
  obtain ⟨k, hk0, hk1, rfl⟩ := hk
  obtain ⟨s1, hs1, e1⟩ := text_at n c k σ hk0 (Int.le_trans hk1 (by decide))
  obtain ⟨a, e2⟩ := sign_at (n + 1) false d σ
  obtain ⟨b, e3⟩ := sign_at (n + 1) false (d / 94) σ
  obtain ⟨s6, hs6, e6⟩ := text_at n d (20 - d % 3) σ (by omega) (by omega)
  have hm : ((s1.cps.size : Int) + 1) > 0 := by omega
  have hm2 : ((s1.cps.size : Int) + 1) < 1152921504606846976 := by omega
  have hat := Int.emod_nonneg (d / 8836) (Int.ne_of_gt hm)
  have l1 : s1.length ≤ 18 := by unfold Str.length; omega
  have l0 : s1.length ≤ 40 := Nat.le_trans l1 (by decide)
  have h1 : s1.length + (⟨#[a]⟩ : Str).length ≤ lim := le_lim2 l0 (show (1 : Nat) ≤ 40 by decide)
  have h3 : (⟨#[b]⟩ : Str).length + s1.length ≤ lim := le_lim2 (show (1 : Nat) ≤ 40 by decide) l0
  have c1 := ch_int (d / 8836 % ((s1.cps.size : Int) + 1)) s1.cps.size hat
  have c2 := cl_int (d / 8836 % ((s1.cps.size : Int) + 1)) s1.cps.size hat
  generalize hA : min (d / 8836 % ((s1.cps.size : Int) + 1)).toNat s1.cps.size = A at c1 c2
  have k1 := cutS_len s1 0 A
  have k2 := cutS_len s1 A s1.cps.size
  have h4 : (⟨(cutL s1.cps.toList 0 A).toArray⟩ : Str).length + (⟨#[b]⟩ : Str).length ≤ lim := le_lim2 (Nat.le_trans k1 l0) (show (1 : Nat) ≤ 40 by decide)
  have h5 : ((⟨(cutL s1.cps.toList 0 A).toArray⟩ : Str) ++ (⟨#[b]⟩ : Str)).length + (⟨(cutL s1.cps.toList A s1.cps.size).toArray⟩ : Str).length ≤ lim := by
    rw [len_app]; exact le_lim2 (Nat.add_le_add (Nat.le_trans k1 l1) (show (1 : Nat) ≤ 22 by decide)) (Nat.le_trans k2 l0)
  refine ⟨[s1, s1 ++ ⟨#[a]⟩, (⟨(cutL s1.cps.toList 0 A).toArray⟩ ++ ⟨#[b]⟩) ++ ⟨(cutL s1.cps.toList A s1.cps.size).toArray⟩, ⟨#[a]⟩, ⟨#[b]⟩ ++ s1, s6], rfl, ?_⟩
  simp only [f__law_pool, execs, x_expr, x_assign, x_setattr, x_setidx, x_ite, x_ret, e_cNone, e_cBool, e_cInt, e_cStr, e_var, e_bin, e_cmp, e_bool, e_not, e_neg, e_fcall, e_new, e_mcall, e_bcall, e_bmeth, e_isinst, e_attr, e_idx, e_slice, e_list, e_tup, e_dict, evs, evBool, bindE_ok, bindM_ok, bindS_next, bindS_ret, fin_ret, fin_next, upd_at, rho_at, is_ii, is_ib, is_ss, is_tt, is_ll, is_bb, tV_bool, tV_int, bV_addI, bV_subI, bV_mulI, bV_fdivI, bV_modI, bV_powI, cV_lt, cV_le, cV_gt, cV_ge, cV_eqI, cV_neI, cV_eqS, cV_neS, bf_lenS, bf_lenL, bf_lenT, bf_min, bf_max, bf_abs, bf_r1, bf_r2, bf_r3, mkList, mkL, lim, Bf.long, Bm.long, Bool.not_true, Bool.not_false, if_true, if_false, reduceCtorEq, Option.map_some, Option.bind_some, Bool.false_and, Bool.true_and, Bool.and_true, Bool.and_false, Bool.or_false, Bool.or_true, Option.some.injEq, List.getElem?_cons_zero, List.getElem?_cons_succ, List.length_cons, List.length_nil, Nat.zero_add, Nat.reduceAdd, V.isNone, Bool.false_eq_true, and_self, ite_true, ite_false, decide_true, decide_false, Nat.succ_ne_zero, Nat.reduceEqDiff, Nat.reduceLeDiff, Bool.true_eq_false, Int.reduceLT, hi, e1, e2, e3, bV_modI _ _ hm hm2, bV_addS _ _ h1, bV_addS _ _ h3, cl_none, ch_none, c1, c2, sl_str _ _ _ _ _ _ _ (cl_none _) c1, sl_str _ _ _ _ _ _ _ c2 (ch_none _), bV_addS _ _ h4, bV_addS _ _ h5, e6, List.map_cons, List.map_nil]

theorem prefix_at (n : Nat) (hd : Bool) (ss : List Str) (h6 : ss.length = 6) (c : Int) (σ : St) : ∃ s : Str, run P (n + 1) hd "" "_law_prefix" [.lst (ss.map .str), .int c] [] σ = some (.ok (.str s), σ) := by
  rw [run_call (fn := f__law_prefix) (vs := [.lst (ss.map .str), .int c]) rfl rfl rfl]
  match ss, h6 with
  | [s0, s1, s2, s3, s4, s5], _ =>
  have c1 := ch_int 1 s4.cps.size (by decide)
  obtain ⟨x, hx, hi⟩ := drawn σ [.str "", .str "", .str s0, .str s3, .str s1, .str ⟨(cutL s4.cps.toList 0 (min (1 : Int).toNat s4.cps.size)).toArray⟩, .str s5] c 7 (by decide) (by decide) (by simp)
  have hx : ∃ s, x = .str s := by
    simp only [List.mem_cons, List.not_mem_nil, or_false] at hx
    rcases hx with rfl | rfl | rfl | rfl | rfl | rfl | rfl <;> exact ⟨_, rfl⟩
  obtain ⟨s, rfl⟩ := hx
  refine ⟨s, ?_⟩
  have p0 : idxV σ (.lst [.str s0, .str s1, .str s2, .str s3, .str s4, .str s5]) (.int 0) = some (.str s0) := rfl
  have p1 : idxV σ (.lst [.str s0, .str s1, .str s2, .str s3, .str s4, .str s5]) (.int 1) = some (.str s1) := rfl
  have p3 : idxV σ (.lst [.str s0, .str s1, .str s2, .str s3, .str s4, .str s5]) (.int 3) = some (.str s3) := rfl
  have p4 : idxV σ (.lst [.str s0, .str s1, .str s2, .str s3, .str s4, .str s5]) (.int 4) = some (.str s4) := rfl
  have p5 : idxV σ (.lst [.str s0, .str s1, .str s2, .str s3, .str s4, .str s5]) (.int 5) = some (.str s5) := rfl
  simp only [f__law_prefix, execs, x_expr, x_assign, x_setattr, x_setidx, x_ite, x_ret, e_cNone, e_cBool, e_cInt, e_cStr, e_var, e_bin, e_cmp, e_bool, e_not, e_neg, e_fcall, e_new, e_mcall, e_bcall, e_bmeth, e_isinst, e_attr, e_idx, e_slice, e_list, e_tup, e_dict, evs, evBool, bindE_ok, bindM_ok, bindS_next, bindS_ret, fin_ret, fin_next, upd_at, rho_at, is_ii, is_ib, is_ss, is_tt, is_ll, is_bb, tV_bool, tV_int, bV_addI, bV_subI, bV_mulI, bV_fdivI, bV_modI, bV_powI, cV_lt, cV_le, cV_gt, cV_ge, cV_eqI, cV_neI, cV_eqS, cV_neS, bf_lenS, bf_lenL, bf_lenT, bf_min, bf_max, bf_abs, bf_r1, bf_r2, bf_r3, mkList, mkL, lim, Bf.long, Bm.long, Bool.not_true, Bool.not_false, if_true, if_false, reduceCtorEq, Option.map_some, Option.bind_some, Bool.false_and, Bool.true_and, Bool.and_true, Bool.and_false, Bool.or_false, Bool.or_true, Option.some.injEq, List.getElem?_cons_zero, List.getElem?_cons_succ, List.length_cons, List.length_nil, Nat.zero_add, Nat.reduceAdd, V.isNone, Bool.false_eq_true, and_self, ite_true, ite_false, decide_true, decide_false, Nat.succ_ne_zero, Nat.reduceEqDiff, Nat.reduceLeDiff, Bool.true_eq_false, List.map_cons, List.map_nil, p0, p1, p3, p4, p5, sl_str _ _ _ _ _ _ _ (cl_none _) c1, Int.reduceLT, hi]
end Lw.L02
namespace Lw.L02
open PySem

noncomputable def IsRow (j : Nat) (v : V) : Prop := ∃ (t : Int) (w k x : Str), v = .tup [.int j, .int t, .str w, .str k, .str x]
noncomputable def Rows (vs : List V) : Prop := ∀ v ∈ vs, ∃ j, 0 < j ∧ IsRow j v
theorem Rows.data {vs : List V} (h : Rows vs) (σ : St) : ∃ ds, mapO (dataOf σ 5) vs = some ds ∧ ds.length = vs.length := mapO_all fun v hv => by
  obtain ⟨j, _, t, w, k, x, rfl⟩ := h v hv
  exact ⟨_, rfl⟩
theorem Rows.data' {vs : List V} (h : Rows vs) (σ : St) : ∃ ds, mapO (dataOf σ 5) vs = some ds := let ⟨ds, e, _⟩ := h.data σ; ⟨ds, e⟩

theorem change_at (n : Nat) (hd : Bool) (v : V) (σ : St) (h : ∃ j, 0 < j ∧ IsRow j v) : run P (n + 2) hd "" "_law_change" [v] [] σ = some (.ok (.bool true), σ) := by
  obtain ⟨j, _, t, w, k, x, rfl⟩ := h
  rw [run_call (fn := f__law_change) (vs := [.tup [.int j, .int t, .str w, .str k, .str x]]) rfl rfl rfl]
  have i0 : idxV σ (.tup [.int j, .int t, .str w, .str k, .str x]) (.int 0) = some (.int j) := rfl
  have i1 : idxV σ (.tup [.int j, .int t, .str w, .str k, .str x]) (.int 1) = some (.int t) := rfl
  have i2 : idxV σ (.tup [.int j, .int t, .str w, .str k, .str x]) (.int 2) = some (.str w) := rfl
  have i3 : idxV σ (.tup [.int j, .int t, .str w, .str k, .str x]) (.int 3) = some (.str k) := rfl
  have i4 : idxV σ (.tup [.int j, .int t, .str w, .str k, .str x]) (.int 4) = some (.str x) := rfl
  simp [f__law_change, execs, x_expr, x_assign, x_setattr, x_setidx, x_ite, x_ret, e_cNone, e_cBool, e_cInt, e_cStr, e_var, e_bin, e_cmp, e_bool, e_not, e_neg, e_fcall, e_new, e_mcall, e_bcall, e_bmeth, e_isinst, e_attr, e_idx, e_slice, e_list, e_tup, e_dict, evs, evBool, bindE_ok, bindM_ok, bindS_next, bindS_ret, fin_ret, fin_next, upd_at, rho_at, is_ii, is_ib, is_ss, is_tt, is_ll, is_bb, tV_bool, tV_int, bV_addI, bV_subI, bV_mulI, bV_fdivI, bV_modI, bV_powI, cV_lt, cV_le, cV_gt, cV_ge, cV_eqI, cV_neI, cV_eqS, cV_neS, bf_lenS, bf_lenL, bf_lenT, bf_min, bf_max, bf_abs, bf_r1, bf_r2, bf_r3, mkList, mkL, lim, Bf.long, Bm.long, Bool.not_true, Bool.not_false, if_true, if_false, reduceCtorEq, Option.map_some, Option.bind_some, Bool.false_and, Bool.true_and, Bool.and_true, Bool.and_false, Bool.or_false, Bool.or_true, Option.some.injEq, List.getElem?_cons_zero, List.getElem?_cons_succ, List.length_cons, List.length_nil, Nat.zero_add, Nat.reduceAdd, V.isNone, Bool.false_eq_true, and_self, ite_true, ite_false, decide_true, decide_false, Nat.succ_ne_zero, Nat.reduceEqDiff, Nat.reduceLeDiff, Bool.true_eq_false, i0, i1, i2, i3, i4, whole_int]

theorem changes_at (n : Nat) (a : Nat) (fs : List V) (σ : St) (h : σ.get a = some (.list false fs)) (hr : Rows fs) :
    run P (n + 3) false "" "_law_changes" [.ref a, .lst fs] [] σ = some (.ok (.bool true), σ.set a (.list false [])) := by
  rw [run_call (fn := f__law_changes) (vs := [.ref a, .lst fs]) rfl rfl rfl]
  have hlen := len_ref h
  have hlist := is_rl P h
  obtain ⟨ρ', σ', ⟨rfl, q0, q1⟩, hl⟩ := loop_ind (f := fun v ρ σ => execs P (run P (n + 2)) false [.ite (.not (.fcall "_law_change" [(.var 2)])) [.ret (.cBool false)] []] (upd ρ 2 v) σ)
    (I := fun _ ρ τ => τ = σ.set a (.list true fs) ∧ ρ 0 = some (.ref a) ∧ ρ 1 = some (.lst fs)) fs 0 (fun i v hv ρ τ ⟨e, h0, h1⟩ => by
      refine ⟨upd ρ 2 v, τ, ⟨e, by rw [upd_ne _ _ _ _ (by decide)]; exact h0, by rw [upd_ne _ _ _ _ (by decide)]; exact h1⟩, ?_⟩
      have hc := change_at n false v τ (hr v (List.mem_of_getElem? hv))
      simp only [execs, x_expr, x_assign, x_setattr, x_setidx, x_ite, x_ret, e_cNone, e_cBool, e_cInt, e_cStr, e_var, e_bin, e_cmp, e_bool, e_not, e_neg, e_fcall, e_new, e_mcall, e_bcall, e_bmeth, e_isinst, e_attr, e_idx, e_slice, e_list, e_tup, e_dict, evs, evBool, bindE_ok, bindM_ok, bindS_next, bindS_ret, fin_ret, fin_next, upd_at, rho_at, is_ii, is_ib, is_ss, is_tt, is_ll, is_bb, tV_bool, tV_int, bV_addI, bV_subI, bV_mulI, bV_fdivI, bV_modI, bV_powI, cV_lt, cV_le, cV_gt, cV_ge, cV_eqI, cV_neI, cV_eqS, cV_neS, bf_lenS, bf_lenL, bf_lenT, bf_min, bf_max, bf_abs, bf_r1, bf_r2, bf_r3, mkList, mkL, lim, Bf.long, Bm.long, Bool.not_true, Bool.not_false, if_true, if_false, reduceCtorEq, Option.map_some, Option.bind_some, Bool.false_and, Bool.true_and, Bool.and_true, Bool.and_false, Bool.or_false, Bool.or_true, Option.some.injEq, List.getElem?_cons_zero, List.getElem?_cons_succ, List.length_cons, List.length_nil, Nat.zero_add, Nat.reduceAdd, V.isNone, Bool.false_eq_true, and_self, ite_true, ite_false, decide_true, decide_false, Nat.succ_ne_zero, Nat.reduceEqDiff, Nat.reduceLeDiff, Bool.true_eq_false, hc]) (rhoOf [.ref a, .lst fs]) (σ.set a (.list true fs)) ⟨rfl, rfl, rfl⟩
  have hlk : lockV σ (.ref a) = σ.set a (.list true fs) := by simp only [lockV, h, O.locked]
  have hl : loop (fun v ρ σ => execs P (run P (n + 2)) false [.ite (.not (.fcall "_law_change" [(.var 2)])) [.ret (.cBool false)] []] (upd ρ 2 v) σ) fs (rhoOf [.ref a, .lst fs]) (lockV σ (.ref a)) = some (.next, ρ', σ.set a (.list true fs)) := by rw [hlk]; exact hl
  have hfor := x_for1 P (run P (n + 2)) false (rhoOf [.ref a, .lst fs]) σ (it := .var 0) (itv := .ref a) (σ₁ := σ) (items := fs) rfl (by simp only [itersOf, Bool.false_eq_true, if_false, itemsOf, h]) hl
  have hun : unlockV σ (.ref a) (σ.set a (.list true fs)) = σ := by
    simp only [unlockV, h]
    rw [set_set, set_same _ _ _ h]
  have heq : cmpV σ .eq (.ref a) (.lst fs) = some true := by
    simp only [cmpV]; exact eq_same h (hr.data' σ)
  have hcl := clear_ref h
  have hp := isL_ref h
  have ne : decide ((fs.length : Int) = fs.length) = true := by simp
  simp only [f__law_changes, execs, x_expr, x_assign, x_setattr, x_setidx, x_ite, x_ret, e_cNone, e_cBool, e_cInt, e_cStr, e_var, e_bin, e_cmp, e_bool, e_not, e_neg, e_fcall, e_new, e_mcall, e_bcall, e_bmeth, e_isinst, e_attr, e_idx, e_slice, e_list, e_tup, e_dict, evs, evBool, bindE_ok, bindM_ok, bindS_next, bindS_ret, fin_ret, fin_next, upd_at, rho_at, is_ii, is_ib, is_ss, is_tt, is_ll, is_bb, tV_bool, tV_int, bV_addI, bV_subI, bV_mulI, bV_fdivI, bV_modI, bV_powI, cV_lt, cV_le, cV_gt, cV_ge, cV_eqI, cV_neI, cV_eqS, cV_neS, bf_lenS, bf_lenL, bf_lenT, bf_min, bf_max, bf_abs, bf_r1, bf_r2, bf_r3, mkList, mkL, lim, Bf.long, Bm.long, Bool.not_true, Bool.not_false, if_true, if_false, reduceCtorEq, Option.map_some, Option.bind_some, Bool.false_and, Bool.true_and, Bool.and_true, Bool.and_false, Bool.or_false, Bool.or_true, Option.some.injEq, List.getElem?_cons_zero, List.getElem?_cons_succ, List.length_cons, List.length_nil, Nat.zero_add, Nat.reduceAdd, V.isNone, Bool.false_eq_true, and_self, ite_true, ite_false, decide_true, decide_false, Nat.succ_ne_zero, Nat.reduceEqDiff, Nat.reduceLeDiff, Bool.true_eq_false, hlist, hlen, ne, hfor, loopEnd, hun, q0, q1, heq, bmPre, hp, hcl]

noncomputable def sel (b : Int) (p : Str) : V → Bool
  | .tup [.int j, _, _, .str k, _] => decide (b < j) && p.cps.toList.isPrefixOf k.cps.toList
  | _ => false

theorem sel_row (b : Int) (p : Str) (j t : Int) (w k x : Str) : sel b p (.tup [.int j, .int t, .str w, .str k, .str x]) = (decide (b < j) && p.cps.toList.isPrefixOf k.cps.toList) := rfl

theorem unlocked (τ : St) (r a : Nat) (L L0 X : O) (hr : τ.get r = some L0) (hne : r ≠ a) : (((τ.set r L).set a X).set r L0) = τ.set a X := by
  rw [set_comm _ _ _ _ _ hne, set_set, ← set_comm _ _ _ _ _ hne, set_same _ _ _ hr]

theorem take_filter (rs : List V) (s : V → Bool) (i : Nat) (v : V) (h : rs[i]? = some v) : (rs.take (i + 1)).filter s = (rs.take i).filter s ++ (if s v then [v] else []) := by
  rw [List.take_add_one, h, List.filter_append]
  congr 1
  simp only [Option.toList_some]
  by_cases q : s v = true
  · simp [q]
  · simp [q]

theorem wanted_at (n : Nat) (l r : Nat) (g : Int) (p : Str) (b m : Int) (rs : List V) (σ : St) (hm : 0 ≤ m) (hl : σ.get l = some (.inst "Log" [("gone", .int g), ("rows", .ref r)])) (hr : σ.get r = some (.list false rs)) (hrr : Rows rs) (hrn : r < σ.n) (hln : l < σ.n) (hlim : rs.length < 100000) :
    run P (n + 1) false "Log" "wanted" [.ref l, .str p, .int b, .int m] [] σ = some (.ok (.ref σ.n), σ.new (.list false ((rs.filter (sel b p)).take m.toNat))) := by
  rw [run_call (fn := f_Log_wanted) (vs := [.ref l, .str p, .int b, .int m]) rfl rfl rfl]
  have ra : r ≠ σ.n := by omega
  have la : l ≠ σ.n := by omega
  have hr1 : (σ.new (.list false [])).get r = some (.list false rs) := by rw [get_new, if_neg ra]; exact hr
  have hl1 : (σ.new (.list false [])).get l = some (.inst "Log" [("gone", .int g), ("rows", .ref r)]) := by rw [get_new, if_neg la]; exact hl
  have hlk : lockV (σ.new (.list false [])) (.ref r) = (σ.new (.list false [])).set r (.list true rs) := by simp only [lockV, hr1, O.locked]
  have hstart : ((σ.new (.list false [])).set r (.list true rs)).set σ.n (.list false []) = (σ.new (.list false [])).set r (.list true rs) :=
    set_same _ _ _ (by rw [get_set, if_neg (Ne.symm ra), get_new, if_pos rfl])
  have key := loop_ret (f := fun v ρ τ => execs P (run P n) false [.ite (.cmp .ge (.bcall .len [(.var 4)]) (.var 3)) [.ret (.var 4)] [], .ite (.bool true [(.cmp .gt (.idx (.var 5) (.cInt 0)) (.var 2)), (.bmeth .startswith (.idx (.var 5) (.cInt 3)) [(.var 1)])]) [.expr (.bmeth .append (.var 4) [(.var 5)])] []] (upd ρ 5 v) τ)
    (I := fun i ρ τ => τ = ((σ.new (.list false [])).set r (.list true rs)).set σ.n (.list false ((rs.take i).filter (sel b p))) ∧ ((rs.take i).filter (sel b p)).length ≤ m.toNat ∧ ρ 0 = some (.ref l) ∧ ρ 1 = some (.str p) ∧ ρ 2 = some (.int b) ∧ ρ 3 = some (.int m) ∧ ρ 4 = some (.ref σ.n))
    (D := fun x τ => x = .ref σ.n ∧ τ = ((σ.new (.list false [])).set r (.list true rs)).set σ.n (.list false ((rs.filter (sel b p)).take m.toNat))) rs 0 (fun i v hv ρ τ ⟨e, hle, h0, h1, h2, h3, h4⟩ => by
      rw [Nat.zero_add] at e hle ⊢
      have hi : i < rs.length := (List.getElem?_eq_some_iff.mp hv).1
      obtain ⟨j, _, t, w, k, x, rfl⟩ := hrr v (List.mem_of_getElem? hv)
      have ha : τ.get σ.n = some (.list false ((rs.take i).filter (sel b p))) := by rw [e, get_set, if_pos rfl]
      have hlen := len_ref ha
      have i0 : idxV τ (.tup [.int j, .int t, .str w, .str k, .str x]) (.int 0) = some (.int j) := rfl
      have i3 : idxV τ (.tup [.int j, .int t, .str w, .str k, .str x]) (.int 3) = some (.str k) := rfl
      by_cases hge : m ≤ (((rs.take i).filter (sel b p)).length : Int)
      · refine .inr ⟨.ref σ.n, upd ρ 5 (.tup [.int j, .int t, .str w, .str k, .str x]), τ, ⟨rfl, ?_⟩, ?_⟩
        · rw [e]
          congr 2
          have hE : ((rs.take i).filter (sel b p)).length = m.toNat := by omega
          have hsp : rs.filter (sel b p) = (rs.take i).filter (sel b p) ++ (rs.drop i).filter (sel b p) := by rw [← List.filter_append, List.take_append_drop]
          rw [hsp, List.take_append_of_le_length (by omega), ← hE, List.take_length]
        · have hd : decide (m ≤ (((rs.take i).filter (sel b p)).length : Int)) = true := by simpa using hge
          simp only [execs, x_expr, x_assign, x_setattr, x_setidx, x_ite, x_ret, e_cNone, e_cBool, e_cInt, e_cStr, e_var, e_bin, e_cmp, e_bool, e_not, e_neg, e_fcall, e_new, e_mcall, e_bcall, e_bmeth, e_isinst, e_attr, e_idx, e_slice, e_list, e_tup, e_dict, evs, evBool, bindE_ok, bindM_ok, bindS_next, bindS_ret, fin_ret, fin_next, upd_at, rho_at, is_ii, is_ib, is_ss, is_tt, is_ll, is_bb, tV_bool, tV_int, bV_addI, bV_subI, bV_mulI, bV_fdivI, bV_modI, bV_powI, cV_lt, cV_le, cV_gt, cV_ge, cV_eqI, cV_neI, cV_eqS, cV_neS, bf_lenS, bf_lenL, bf_lenT, bf_min, bf_max, bf_abs, bf_r1, bf_r2, bf_r3, mkList, mkL, lim, Bf.long, Bm.long, Bool.not_true, Bool.not_false, if_true, if_false, reduceCtorEq, Option.map_some, Option.bind_some, Bool.false_and, Bool.true_and, Bool.and_true, Bool.and_false, Bool.or_false, Bool.or_true, Option.some.injEq, List.getElem?_cons_zero, List.getElem?_cons_succ, List.length_cons, List.length_nil, Nat.zero_add, Nat.reduceAdd, V.isNone, Bool.false_eq_true, and_self, ite_true, ite_false, decide_true, decide_false, Nat.succ_ne_zero, Nat.reduceEqDiff, Nat.reduceLeDiff, Bool.true_eq_false, h3, h4, hlen, hd]
      · refine .inl ?_
        have hd : decide (m ≤ (((rs.take i).filter (sel b p)).length : Int)) = false := by simpa using hge
        have hst : bmV .startswith (.str k) [.str p] τ = some (.ok (.bool (p.cps.toList.isPrefixOf k.cps.toList)), τ) := rfl
        have hf := take_filter rs (sel b p) i _ hv
        rw [sel_row] at hf
        have hap : ∀ u, bmV .append (.ref σ.n) [u] τ = some (.ok .none, τ.set σ.n (.list false ((rs.take i).filter (sel b p) ++ [u]))) := fun u => by
          have hL : ((rs.take i).filter (sel b p)).length < lim := by
            have := List.length_filter_le (sel b p) (rs.take i)
            rw [List.length_take] at this
            unfold lim; omega
          exact append_ref ha hL
        have hpre := isL_ref ha
        by_cases hb : b < (j : Int)
        · have hb' : decide (b < (j : Int)) = true := by simpa using hb
          rw [hb', Bool.true_and] at hf
          cases hp : p.cps.toList.isPrefixOf k.cps.toList with
          | true =>
            rw [hp] at hf hst
            refine ⟨upd ρ 5 (.tup [.int j, .int t, .str w, .str k, .str x]), τ.set σ.n (.list false ((rs.take (i + 1)).filter (sel b p))), ⟨?_, ?_, ?_⟩, ?_⟩
            · rw [e, set_set]
            · rw [hf]; simp only [if_true, List.length_append, List.length_cons, List.length_nil]; omega
            · simp only [execs, x_expr, x_assign, x_setattr, x_setidx, x_ite, x_ret, e_cNone, e_cBool, e_cInt, e_cStr, e_var, e_bin, e_cmp, e_bool, e_not, e_neg, e_fcall, e_new, e_mcall, e_bcall, e_bmeth, e_isinst, e_attr, e_idx, e_slice, e_list, e_tup, e_dict, evs, evBool, bindE_ok, bindM_ok, bindS_next, bindS_ret, fin_ret, fin_next, upd_at, rho_at, is_ii, is_ib, is_ss, is_tt, is_ll, is_bb, tV_bool, tV_int, bV_addI, bV_subI, bV_mulI, bV_fdivI, bV_modI, bV_powI, cV_lt, cV_le, cV_gt, cV_ge, cV_eqI, cV_neI, cV_eqS, cV_neS, bf_lenS, bf_lenL, bf_lenT, bf_min, bf_max, bf_abs, bf_r1, bf_r2, bf_r3, mkList, mkL, lim, Bf.long, Bm.long, Bool.not_true, Bool.not_false, if_true, if_false, reduceCtorEq, Option.map_some, Option.bind_some, Bool.false_and, Bool.true_and, Bool.and_true, Bool.and_false, Bool.or_false, Bool.or_true, Option.some.injEq, List.getElem?_cons_zero, List.getElem?_cons_succ, List.length_cons, List.length_nil, Nat.zero_add, Nat.reduceAdd, V.isNone, Bool.false_eq_true, and_self, ite_true, ite_false, decide_true, decide_false, Nat.succ_ne_zero, Nat.reduceEqDiff, Nat.reduceLeDiff, Bool.true_eq_false, h0, h1, h2, h3, h4]
            · rw [hf]
              simp only [execs, x_expr, x_assign, x_setattr, x_setidx, x_ite, x_ret, e_cNone, e_cBool, e_cInt, e_cStr, e_var, e_bin, e_cmp, e_bool, e_not, e_neg, e_fcall, e_new, e_mcall, e_bcall, e_bmeth, e_isinst, e_attr, e_idx, e_slice, e_list, e_tup, e_dict, evs, evBool, bindE_ok, bindM_ok, bindS_next, bindS_ret, fin_ret, fin_next, upd_at, rho_at, is_ii, is_ib, is_ss, is_tt, is_ll, is_bb, tV_bool, tV_int, bV_addI, bV_subI, bV_mulI, bV_fdivI, bV_modI, bV_powI, cV_lt, cV_le, cV_gt, cV_ge, cV_eqI, cV_neI, cV_eqS, cV_neS, bf_lenS, bf_lenL, bf_lenT, bf_min, bf_max, bf_abs, bf_r1, bf_r2, bf_r3, mkList, mkL, lim, Bf.long, Bm.long, Bool.not_true, Bool.not_false, if_true, if_false, reduceCtorEq, Option.map_some, Option.bind_some, Bool.false_and, Bool.true_and, Bool.and_true, Bool.and_false, Bool.or_false, Bool.or_true, Option.some.injEq, List.getElem?_cons_zero, List.getElem?_cons_succ, List.length_cons, List.length_nil, Nat.zero_add, Nat.reduceAdd, V.isNone, Bool.false_eq_true, and_self, ite_true, ite_false, decide_true, decide_false, Nat.succ_ne_zero, Nat.reduceEqDiff, Nat.reduceLeDiff, Bool.true_eq_false, h1, h2, h3, h4, hlen, hd, i0, i3, hb', bmPre, isStrV, hst, hpre, hap]
          | false =>
            rw [hp] at hf hst
            refine ⟨upd ρ 5 (.tup [.int j, .int t, .str w, .str k, .str x]), τ, ⟨?_, ?_, ?_⟩, ?_⟩
            · rw [hf]; simpa using e
            · rw [hf]; simpa using hle
            · simp only [execs, x_expr, x_assign, x_setattr, x_setidx, x_ite, x_ret, e_cNone, e_cBool, e_cInt, e_cStr, e_var, e_bin, e_cmp, e_bool, e_not, e_neg, e_fcall, e_new, e_mcall, e_bcall, e_bmeth, e_isinst, e_attr, e_idx, e_slice, e_list, e_tup, e_dict, evs, evBool, bindE_ok, bindM_ok, bindS_next, bindS_ret, fin_ret, fin_next, upd_at, rho_at, is_ii, is_ib, is_ss, is_tt, is_ll, is_bb, tV_bool, tV_int, bV_addI, bV_subI, bV_mulI, bV_fdivI, bV_modI, bV_powI, cV_lt, cV_le, cV_gt, cV_ge, cV_eqI, cV_neI, cV_eqS, cV_neS, bf_lenS, bf_lenL, bf_lenT, bf_min, bf_max, bf_abs, bf_r1, bf_r2, bf_r3, mkList, mkL, lim, Bf.long, Bm.long, Bool.not_true, Bool.not_false, if_true, if_false, reduceCtorEq, Option.map_some, Option.bind_some, Bool.false_and, Bool.true_and, Bool.and_true, Bool.and_false, Bool.or_false, Bool.or_true, Option.some.injEq, List.getElem?_cons_zero, List.getElem?_cons_succ, List.length_cons, List.length_nil, Nat.zero_add, Nat.reduceAdd, V.isNone, Bool.false_eq_true, and_self, ite_true, ite_false, decide_true, decide_false, Nat.succ_ne_zero, Nat.reduceEqDiff, Nat.reduceLeDiff, Bool.true_eq_false, h0, h1, h2, h3, h4]
            · simp only [execs, x_expr, x_assign, x_setattr, x_setidx, x_ite, x_ret, e_cNone, e_cBool, e_cInt, e_cStr, e_var, e_bin, e_cmp, e_bool, e_not, e_neg, e_fcall, e_new, e_mcall, e_bcall, e_bmeth, e_isinst, e_attr, e_idx, e_slice, e_list, e_tup, e_dict, evs, evBool, bindE_ok, bindM_ok, bindS_next, bindS_ret, fin_ret, fin_next, upd_at, rho_at, is_ii, is_ib, is_ss, is_tt, is_ll, is_bb, tV_bool, tV_int, bV_addI, bV_subI, bV_mulI, bV_fdivI, bV_modI, bV_powI, cV_lt, cV_le, cV_gt, cV_ge, cV_eqI, cV_neI, cV_eqS, cV_neS, bf_lenS, bf_lenL, bf_lenT, bf_min, bf_max, bf_abs, bf_r1, bf_r2, bf_r3, mkList, mkL, lim, Bf.long, Bm.long, Bool.not_true, Bool.not_false, if_true, if_false, reduceCtorEq, Option.map_some, Option.bind_some, Bool.false_and, Bool.true_and, Bool.and_true, Bool.and_false, Bool.or_false, Bool.or_true, Option.some.injEq, List.getElem?_cons_zero, List.getElem?_cons_succ, List.length_cons, List.length_nil, Nat.zero_add, Nat.reduceAdd, V.isNone, Bool.false_eq_true, and_self, ite_true, ite_false, decide_true, decide_false, Nat.succ_ne_zero, Nat.reduceEqDiff, Nat.reduceLeDiff, Bool.true_eq_false, h1, h2, h3, h4, hlen, hd, i0, i3, hb', bmPre, isStrV, hst, hpre, hap]
        · have hb' : decide (b < (j : Int)) = false := by simpa using hb
          rw [hb', Bool.false_and] at hf
          refine ⟨upd ρ 5 (.tup [.int j, .int t, .str w, .str k, .str x]), τ, ⟨?_, ?_, ?_⟩, ?_⟩
          · rw [hf]; simpa using e
          · rw [hf]; simpa using hle
          · simp only [execs, x_expr, x_assign, x_setattr, x_setidx, x_ite, x_ret, e_cNone, e_cBool, e_cInt, e_cStr, e_var, e_bin, e_cmp, e_bool, e_not, e_neg, e_fcall, e_new, e_mcall, e_bcall, e_bmeth, e_isinst, e_attr, e_idx, e_slice, e_list, e_tup, e_dict, evs, evBool, bindE_ok, bindM_ok, bindS_next, bindS_ret, fin_ret, fin_next, upd_at, rho_at, is_ii, is_ib, is_ss, is_tt, is_ll, is_bb, tV_bool, tV_int, bV_addI, bV_subI, bV_mulI, bV_fdivI, bV_modI, bV_powI, cV_lt, cV_le, cV_gt, cV_ge, cV_eqI, cV_neI, cV_eqS, cV_neS, bf_lenS, bf_lenL, bf_lenT, bf_min, bf_max, bf_abs, bf_r1, bf_r2, bf_r3, mkList, mkL, lim, Bf.long, Bm.long, Bool.not_true, Bool.not_false, if_true, if_false, reduceCtorEq, Option.map_some, Option.bind_some, Bool.false_and, Bool.true_and, Bool.and_true, Bool.and_false, Bool.or_false, Bool.or_true, Option.some.injEq, List.getElem?_cons_zero, List.getElem?_cons_succ, List.length_cons, List.length_nil, Nat.zero_add, Nat.reduceAdd, V.isNone, Bool.false_eq_true, and_self, ite_true, ite_false, decide_true, decide_false, Nat.succ_ne_zero, Nat.reduceEqDiff, Nat.reduceLeDiff, Bool.true_eq_false, h0, h1, h2, h3, h4]
          · simp only [execs, x_expr, x_assign, x_setattr, x_setidx, x_ite, x_ret, e_cNone, e_cBool, e_cInt, e_cStr, e_var, e_bin, e_cmp, e_bool, e_not, e_neg, e_fcall, e_new, e_mcall, e_bcall, e_bmeth, e_isinst, e_attr, e_idx, e_slice, e_list, e_tup, e_dict, evs, evBool, bindE_ok, bindM_ok, bindS_next, bindS_ret, fin_ret, fin_next, upd_at, rho_at, is_ii, is_ib, is_ss, is_tt, is_ll, is_bb, tV_bool, tV_int, bV_addI, bV_subI, bV_mulI, bV_fdivI, bV_modI, bV_powI, cV_lt, cV_le, cV_gt, cV_ge, cV_eqI, cV_neI, cV_eqS, cV_neS, bf_lenS, bf_lenL, bf_lenT, bf_min, bf_max, bf_abs, bf_r1, bf_r2, bf_r3, mkList, mkL, lim, Bf.long, Bm.long, Bool.not_true, Bool.not_false, if_true, if_false, reduceCtorEq, Option.map_some, Option.bind_some, Bool.false_and, Bool.true_and, Bool.and_true, Bool.and_false, Bool.or_false, Bool.or_true, Option.some.injEq, List.getElem?_cons_zero, List.getElem?_cons_succ, List.length_cons, List.length_nil, Nat.zero_add, Nat.reduceAdd, V.isNone, Bool.false_eq_true, and_self, ite_true, ite_false, decide_true, decide_false, Nat.succ_ne_zero, Nat.reduceEqDiff, Nat.reduceLeDiff, Bool.true_eq_false, h1, h2, h3, h4, hlen, hd, i0, i3, hb', bmPre, isStrV, hst, hpre, hap])
    (upd (rhoOf [.ref l, .str p, .int b, .int m]) 4 (.ref σ.n)) (lockV (σ.new (.list false [])) (.ref r)) ⟨by rw [hlk]; simpa using hstart.symm, by simp, rfl, rfl, rfl, rfl, rfl⟩
  have hattr : attrV (σ.new (.list false [])) (.ref l) "rows" = some (.ref r) := by simp only [attrV, hl1]; rfl
  have hit : ev P (run P n) false (.attr (.var 0) "rows") (upd (rhoOf [.ref l, .str p, .int b, .int m]) 4 (.ref σ.n)) (σ.new (.list false [])) = some (.ok (.ref r), σ.new (.list false [])) := by
    simp only [execs, x_expr, x_assign, x_setattr, x_setidx, x_ite, x_ret, e_cNone, e_cBool, e_cInt, e_cStr, e_var, e_bin, e_cmp, e_bool, e_not, e_neg, e_fcall, e_new, e_mcall, e_bcall, e_bmeth, e_isinst, e_attr, e_idx, e_slice, e_list, e_tup, e_dict, evs, evBool, bindE_ok, bindM_ok, bindS_next, bindS_ret, fin_ret, fin_next, upd_at, rho_at, is_ii, is_ib, is_ss, is_tt, is_ll, is_bb, tV_bool, tV_int, bV_addI, bV_subI, bV_mulI, bV_fdivI, bV_modI, bV_powI, cV_lt, cV_le, cV_gt, cV_ge, cV_eqI, cV_neI, cV_eqS, cV_neS, bf_lenS, bf_lenL, bf_lenT, bf_min, bf_max, bf_abs, bf_r1, bf_r2, bf_r3, mkList, mkL, lim, Bf.long, Bm.long, Bool.not_true, Bool.not_false, if_true, if_false, reduceCtorEq, Option.map_some, Option.bind_some, Bool.false_and, Bool.true_and, Bool.and_true, Bool.and_false, Bool.or_false, Bool.or_true, Option.some.injEq, List.getElem?_cons_zero, List.getElem?_cons_succ, List.length_cons, List.length_nil, Nat.zero_add, Nat.reduceAdd, V.isNone, Bool.false_eq_true, and_self, ite_true, ite_false, decide_true, decide_false, Nat.succ_ne_zero, Nat.reduceEqDiff, Nat.reduceLeDiff, Bool.true_eq_false, hattr]
  have hiters : itersOf false (σ.new (.list false [])) (.ref r) = some rs := by simp only [itersOf, Bool.false_eq_true, if_false, itemsOf, hr1]
  have hun : ∀ X, unlockV (σ.new (.list false [])) (.ref r) (((σ.new (.list false [])).set r (.list true rs)).set σ.n X) = σ.new X := fun X => by
    simp only [unlockV, hr1]
    rw [unlocked _ _ _ _ _ _ hr1 ra, new_set]
  rcases key with ⟨ρ', τ, ⟨e, hle, h0, h1, h2, h3, h4⟩, hloop⟩ | ⟨x, ρ', τ, ⟨rfl, e⟩, hloop⟩
  · have hfor := x_for1 P (run P n) false _ _ hit hiters hloop
    rw [Nat.zero_add, List.take_length] at e hle
    rw [e] at hfor
    simp only [loopEnd, hun, Bool.false_eq_true, if_false] at hfor
    rw [List.take_of_length_le hle]
    simp only [f_Log_wanted, execs, x_expr, x_assign, x_setattr, x_setidx, x_ite, x_ret, e_cNone, e_cBool, e_cInt, e_cStr, e_var, e_bin, e_cmp, e_bool, e_not, e_neg, e_fcall, e_new, e_mcall, e_bcall, e_bmeth, e_isinst, e_attr, e_idx, e_slice, e_list, e_tup, e_dict, evs, evBool, bindE_ok, bindM_ok, bindS_next, bindS_ret, fin_ret, fin_next, upd_at, rho_at, is_ii, is_ib, is_ss, is_tt, is_ll, is_bb, tV_bool, tV_int, bV_addI, bV_subI, bV_mulI, bV_fdivI, bV_modI, bV_powI, cV_lt, cV_le, cV_gt, cV_ge, cV_eqI, cV_neI, cV_eqS, cV_neS, bf_lenS, bf_lenL, bf_lenT, bf_min, bf_max, bf_abs, bf_r1, bf_r2, bf_r3, mkList, mkL, lim, Bf.long, Bm.long, Bool.not_true, Bool.not_false, if_true, if_false, reduceCtorEq, Option.map_some, Option.bind_some, Bool.false_and, Bool.true_and, Bool.and_true, Bool.and_false, Bool.or_false, Bool.or_true, Option.some.injEq, List.getElem?_cons_zero, List.getElem?_cons_succ, List.length_cons, List.length_nil, Nat.zero_add, Nat.reduceAdd, V.isNone, Bool.false_eq_true, and_self, ite_true, ite_false, decide_true, decide_false, Nat.succ_ne_zero, Nat.reduceEqDiff, Nat.reduceLeDiff, Bool.true_eq_false, hfor, h4]
  · have hfor := x_for1 P (run P n) false _ _ hit hiters hloop
    rw [e] at hfor
    simp only [loopEnd, hun] at hfor
    simp only [f_Log_wanted, execs, x_expr, x_assign, x_setattr, x_setidx, x_ite, x_ret, e_cNone, e_cBool, e_cInt, e_cStr, e_var, e_bin, e_cmp, e_bool, e_not, e_neg, e_fcall, e_new, e_mcall, e_bcall, e_bmeth, e_isinst, e_attr, e_idx, e_slice, e_list, e_tup, e_dict, evs, evBool, bindE_ok, bindM_ok, bindS_next, bindS_ret, fin_ret, fin_next, upd_at, rho_at, is_ii, is_ib, is_ss, is_tt, is_ll, is_bb, tV_bool, tV_int, bV_addI, bV_subI, bV_mulI, bV_fdivI, bV_modI, bV_powI, cV_lt, cV_le, cV_gt, cV_ge, cV_eqI, cV_neI, cV_eqS, cV_neS, bf_lenS, bf_lenL, bf_lenT, bf_min, bf_max, bf_abs, bf_r1, bf_r2, bf_r3, mkList, mkL, lim, Bf.long, Bm.long, Bool.not_true, Bool.not_false, if_true, if_false, reduceCtorEq, Option.map_some, Option.bind_some, Bool.false_and, Bool.true_and, Bool.and_true, Bool.and_false, Bool.or_false, Bool.or_true, Option.some.injEq, List.getElem?_cons_zero, List.getElem?_cons_succ, List.length_cons, List.length_nil, Nat.zero_add, Nat.reduceAdd, V.isNone, Bool.false_eq_true, and_self, ite_true, ite_false, decide_true, decide_false, Nat.succ_ne_zero, Nat.reduceEqDiff, Nat.reduceLeDiff, Bool.true_eq_false, hfor]
end Lw.L02
namespace Lw.L02
open PySem

theorem lk_rows (q t : Nat) (g : Int) : lk [(Str.ofString "rows", V.ref q), (Str.ofString "gone", V.int g), (Str.ofString "told", V.ref t)] (Str.ofString "rows") = some (.ref q) := by simp [lk]
theorem ds_rows (σ : St) (m q t : Nat) (g : Int) (h : σ.get m = some (.ds false [(Str.ofString "rows", .ref q), (Str.ofString "gone", .int g), (Str.ofString "told", .ref t)])) : idxV σ (.ref m) (.str (Str.ofString "rows")) = some (.ref q) := by
  show (σ.get m).bind (idxO (.str (Str.ofString "rows"))) = _
  rw [h]; exact lk_rows q t g
theorem lk_gone (q t : Nat) (g : Int) : lk [(Str.ofString "rows", V.ref q), (Str.ofString "gone", V.int g), (Str.ofString "told", V.ref t)] (Str.ofString "gone") = some (.int g) := by simp [lk, str_eq]
theorem ds_gone (σ : St) (m q t : Nat) (g : Int) (h : σ.get m = some (.ds false [(Str.ofString "rows", .ref q), (Str.ofString "gone", .int g), (Str.ofString "told", .ref t)])) : idxV σ (.ref m) (.str (Str.ofString "gone")) = some (.int g) := by
  show (σ.get m).bind (idxO (.str (Str.ofString "gone"))) = _
  rw [h]; exact lk_gone q t g
theorem lk_told (q t : Nat) (g : Int) : lk [(Str.ofString "rows", V.ref q), (Str.ofString "gone", V.int g), (Str.ofString "told", V.ref t)] (Str.ofString "told") = some (.ref t) := by simp [lk, str_eq]
theorem ds_told (σ : St) (m q t : Nat) (g : Int) (h : σ.get m = some (.ds false [(Str.ofString "rows", .ref q), (Str.ofString "gone", .int g), (Str.ofString "told", .ref t)])) : idxV σ (.ref m) (.str (Str.ofString "told")) = some (.ref t) := by
  show (σ.get m).bind (idxO (.str (Str.ofString "told"))) = _
  rw [h]; exact lk_told q t g

theorem cut_pre (k p : Str) : (⟨(cutL k.cps.toList 0 (min (p.cps.size : Int).toNat k.cps.size)).toArray⟩ : Str) = p ↔ p.cps.toList.isPrefixOf k.cps.toList = true := by
  rw [prefix_take, decide_eq_true_eq]
  have e : cutL k.cps.toList 0 (min (p.cps.size : Int).toNat k.cps.size) = k.cps.toList.take p.cps.toList.length := by
    unfold cutL
    simp only [List.drop_zero, Int.toNat_natCast, Array.length_toList]
    rw [Nat.min_def]
    split
    · rfl
    · rw [List.take_of_length_le (by simp), List.take_of_length_le (by simp; omega)]
  rw [e]
  constructor
  · intro h
    have := congrArg (fun s : Str => s.cps.toList) h
    simpa using this
  · intro h
    rw [h]

theorem due_at (n : Nat) (m q t : Nat) (g : Nat) (p : Str) (b k : Int) (all : List V) (σ : St) (hk : 0 ≤ k) (hm : σ.get m = some (.ds false [(Str.ofString "rows", .ref q), (Str.ofString "gone", .int g), (Str.ofString "told", .ref t)]))
    (hq : σ.get q = some (.list false all)) (hrr : Rows all) (hmn : m < σ.n) (hqn : q < σ.n) (hlim : all.length < 100000) :
    ∃ o, run P (n + 1) false "" "_law_wanted" [.ref m, .str p, .int b, .int k] [] σ = some (.ok (.lst (((all.drop g).filter (sel b p)).take k.toNat)), σ.new o) := by
  rw [run_call (fn := f__law_wanted) (vs := [.ref m, .str p, .int b, .int k]) rfl rfl rfl]
  have ma : m ≠ σ.n := by omega
  have qa : q ≠ σ.n := by omega
  have hm1 : (σ.new (.list false [])).get m = some (.ds false [(Str.ofString "rows", .ref q), (Str.ofString "gone", .int g), (Str.ofString "told", .ref t)]) := by rw [get_new, if_neg ma]; exact hm
  have hq1 : (σ.new (.list false [])).get q = some (.list false all) := by rw [get_new, if_neg qa]; exact hq
  have hrd : Rows (all.drop g) := fun v hv => hrr v (List.mem_of_mem_drop hv)
  obtain ⟨ρ', τ, ⟨e, h1, h2, h3, h4⟩, hloop⟩ := loop_ind (f := fun v ρ τ => execs P (run P n) false [.ite (.bool true [(.cmp .gt (.idx (.var 5) (.cInt 0)) (.var 2)), (.cmp .eq (.slice false (.idx (.var 5) (.cInt 3)) .cNone (.bcall .len [(.var 1)])) (.var 1))]) [.expr (.bmeth .append (.var 4) [(.var 5)])] []] (upd ρ 5 v) τ)
    (I := fun i ρ τ => τ = σ.new (.list false (((all.drop g).take i).filter (sel b p))) ∧ ρ 1 = some (.str p) ∧ ρ 2 = some (.int b) ∧ ρ 3 = some (.int k) ∧ ρ 4 = some (.ref σ.n)) (all.drop g) 0 (fun i v hv ρ τ ⟨e, h1, h2, h3, h4⟩ => by
      rw [Nat.zero_add] at e ⊢
      have hi : i < (all.drop g).length := (List.getElem?_eq_some_iff.mp hv).1
      obtain ⟨j, _, t', w, key, x, rfl⟩ := hrd v (List.mem_of_getElem? hv)
      have ha : τ.get σ.n = some (.list false (((all.drop g).take i).filter (sel b p))) := by rw [e, get_new, if_pos rfl]
      have i0 : idxV τ (.tup [.int j, .int t', .str w, .str key, .str x]) (.int 0) = some (.int j) := rfl
      have i3 : idxV τ (.tup [.int j, .int t', .str w, .str key, .str x]) (.int 3) = some (.str key) := rfl
      have hf := take_filter (all.drop g) (sel b p) i _ hv
      rw [sel_row] at hf
      have hap : ∀ u, bmV .append (.ref σ.n) [u] τ = some (.ok .none, τ.set σ.n (.list false (((all.drop g).take i).filter (sel b p) ++ [u]))) := fun u => by
        have hL : (((all.drop g).take i).filter (sel b p)).length < lim := by
          have := List.length_filter_le (sel b p) ((all.drop g).take i)
          rw [List.length_take, List.length_drop] at this
          unfold lim; omega
        exact append_ref ha hL
      have hpre := isL_ref ha
      have hsl := sl_str false key .none (.int p.cps.size) τ 0 _ (cl_none _) (ch_int _ _ (by omega))
      have hcp : decide ((⟨(cutL key.cps.toList 0 (min (p.cps.size : Int).toNat key.cps.size)).toArray⟩ : Str) = p) = p.cps.toList.isPrefixOf key.cps.toList := by
        have := cut_pre key p
        by_cases q : p.cps.toList.isPrefixOf key.cps.toList = true
        · rw [q]; simpa using this.mpr q
        · have q' : p.cps.toList.isPrefixOf key.cps.toList = false := by simpa using q
          rw [q']; simpa using fun h => q (this.mp h)
      by_cases hb : b < (j : Int)
      · have hb' : decide (b < (j : Int)) = true := by simpa using hb
        rw [hb', Bool.true_and] at hf
        cases hp : p.cps.toList.isPrefixOf key.cps.toList with
        | true =>
          rw [hp] at hf hcp
          refine ⟨upd ρ 5 (.tup [.int j, .int t', .str w, .str key, .str x]), τ.set σ.n (.list false (((all.drop g).take (i + 1)).filter (sel b p))), ⟨?_, ?_⟩, ?_⟩
          · rw [e, new_set]
          · simp only [execs, x_expr, x_assign, x_setattr, x_setidx, x_ite, x_ret, e_cNone, e_cBool, e_cInt, e_cStr, e_var, e_bin, e_cmp, e_bool, e_not, e_neg, e_fcall, e_new, e_mcall, e_bcall, e_bmeth, e_isinst, e_attr, e_idx, e_slice, e_list, e_tup, e_dict, evs, evBool, bindE_ok, bindM_ok, bindS_next, bindS_ret, fin_ret, fin_next, upd_at, rho_at, is_ii, is_ib, is_ss, is_tt, is_ll, is_bb, tV_bool, tV_int, bV_addI, bV_subI, bV_mulI, bV_fdivI, bV_modI, bV_powI, cV_lt, cV_le, cV_gt, cV_ge, cV_eqI, cV_neI, cV_eqS, cV_neS, bf_lenS, bf_lenL, bf_lenT, bf_min, bf_max, bf_abs, bf_r1, bf_r2, bf_r3, mkList, mkL, lim, Bf.long, Bm.long, Bool.not_true, Bool.not_false, if_true, if_false, reduceCtorEq, Option.map_some, Option.bind_some, Bool.false_and, Bool.true_and, Bool.and_true, Bool.and_false, Bool.or_false, Bool.or_true, Option.some.injEq, List.getElem?_cons_zero, List.getElem?_cons_succ, List.length_cons, List.length_nil, Nat.zero_add, Nat.reduceAdd, V.isNone, Bool.false_eq_true, and_self, ite_true, ite_false, decide_true, decide_false, Nat.succ_ne_zero, Nat.reduceEqDiff, Nat.reduceLeDiff, Bool.true_eq_false, h1, h2, h3, h4]
          · rw [hf]
            simp only [execs, x_expr, x_assign, x_setattr, x_setidx, x_ite, x_ret, e_cNone, e_cBool, e_cInt, e_cStr, e_var, e_bin, e_cmp, e_bool, e_not, e_neg, e_fcall, e_new, e_mcall, e_bcall, e_bmeth, e_isinst, e_attr, e_idx, e_slice, e_list, e_tup, e_dict, evs, evBool, bindE_ok, bindM_ok, bindS_next, bindS_ret, fin_ret, fin_next, upd_at, rho_at, is_ii, is_ib, is_ss, is_tt, is_ll, is_bb, tV_bool, tV_int, bV_addI, bV_subI, bV_mulI, bV_fdivI, bV_modI, bV_powI, cV_lt, cV_le, cV_gt, cV_ge, cV_eqI, cV_neI, cV_eqS, cV_neS, bf_lenS, bf_lenL, bf_lenT, bf_min, bf_max, bf_abs, bf_r1, bf_r2, bf_r3, mkList, mkL, lim, Bf.long, Bm.long, Bool.not_true, Bool.not_false, if_true, if_false, reduceCtorEq, Option.map_some, Option.bind_some, Bool.false_and, Bool.true_and, Bool.and_true, Bool.and_false, Bool.or_false, Bool.or_true, Option.some.injEq, List.getElem?_cons_zero, List.getElem?_cons_succ, List.length_cons, List.length_nil, Nat.zero_add, Nat.reduceAdd, V.isNone, Bool.false_eq_true, and_self, ite_true, ite_false, decide_true, decide_false, Nat.succ_ne_zero, Nat.reduceEqDiff, Nat.reduceLeDiff, Bool.true_eq_false, h1, h2, h3, h4, i0, i3, hb', hsl, hcp, bmPre, hpre, hap]
        | false =>
          rw [hp] at hf hcp
          refine ⟨upd ρ 5 (.tup [.int j, .int t', .str w, .str key, .str x]), τ, ⟨?_, ?_⟩, ?_⟩
          · rw [hf]; simpa using e
          · simp only [execs, x_expr, x_assign, x_setattr, x_setidx, x_ite, x_ret, e_cNone, e_cBool, e_cInt, e_cStr, e_var, e_bin, e_cmp, e_bool, e_not, e_neg, e_fcall, e_new, e_mcall, e_bcall, e_bmeth, e_isinst, e_attr, e_idx, e_slice, e_list, e_tup, e_dict, evs, evBool, bindE_ok, bindM_ok, bindS_next, bindS_ret, fin_ret, fin_next, upd_at, rho_at, is_ii, is_ib, is_ss, is_tt, is_ll, is_bb, tV_bool, tV_int, bV_addI, bV_subI, bV_mulI, bV_fdivI, bV_modI, bV_powI, cV_lt, cV_le, cV_gt, cV_ge, cV_eqI, cV_neI, cV_eqS, cV_neS, bf_lenS, bf_lenL, bf_lenT, bf_min, bf_max, bf_abs, bf_r1, bf_r2, bf_r3, mkList, mkL, lim, Bf.long, Bm.long, Bool.not_true, Bool.not_false, if_true, if_false, reduceCtorEq, Option.map_some, Option.bind_some, Bool.false_and, Bool.true_and, Bool.and_true, Bool.and_false, Bool.or_false, Bool.or_true, Option.some.injEq, List.getElem?_cons_zero, List.getElem?_cons_succ, List.length_cons, List.length_nil, Nat.zero_add, Nat.reduceAdd, V.isNone, Bool.false_eq_true, and_self, ite_true, ite_false, decide_true, decide_false, Nat.succ_ne_zero, Nat.reduceEqDiff, Nat.reduceLeDiff, Bool.true_eq_false, h1, h2, h3, h4]
          · simp only [execs, x_expr, x_assign, x_setattr, x_setidx, x_ite, x_ret, e_cNone, e_cBool, e_cInt, e_cStr, e_var, e_bin, e_cmp, e_bool, e_not, e_neg, e_fcall, e_new, e_mcall, e_bcall, e_bmeth, e_isinst, e_attr, e_idx, e_slice, e_list, e_tup, e_dict, evs, evBool, bindE_ok, bindM_ok, bindS_next, bindS_ret, fin_ret, fin_next, upd_at, rho_at, is_ii, is_ib, is_ss, is_tt, is_ll, is_bb, tV_bool, tV_int, bV_addI, bV_subI, bV_mulI, bV_fdivI, bV_modI, bV_powI, cV_lt, cV_le, cV_gt, cV_ge, cV_eqI, cV_neI, cV_eqS, cV_neS, bf_lenS, bf_lenL, bf_lenT, bf_min, bf_max, bf_abs, bf_r1, bf_r2, bf_r3, mkList, mkL, lim, Bf.long, Bm.long, Bool.not_true, Bool.not_false, if_true, if_false, reduceCtorEq, Option.map_some, Option.bind_some, Bool.false_and, Bool.true_and, Bool.and_true, Bool.and_false, Bool.or_false, Bool.or_true, Option.some.injEq, List.getElem?_cons_zero, List.getElem?_cons_succ, List.length_cons, List.length_nil, Nat.zero_add, Nat.reduceAdd, V.isNone, Bool.false_eq_true, and_self, ite_true, ite_false, decide_true, decide_false, Nat.succ_ne_zero, Nat.reduceEqDiff, Nat.reduceLeDiff, Bool.true_eq_false, h1, h2, h3, h4, i0, i3, hb', hsl, hcp, bmPre, hpre, hap]
      · have hb' : decide (b < (j : Int)) = false := by simpa using hb
        rw [hb', Bool.false_and] at hf
        refine ⟨upd ρ 5 (.tup [.int j, .int t', .str w, .str key, .str x]), τ, ⟨?_, ?_⟩, ?_⟩
        · rw [hf]; simpa using e
        · simp only [execs, x_expr, x_assign, x_setattr, x_setidx, x_ite, x_ret, e_cNone, e_cBool, e_cInt, e_cStr, e_var, e_bin, e_cmp, e_bool, e_not, e_neg, e_fcall, e_new, e_mcall, e_bcall, e_bmeth, e_isinst, e_attr, e_idx, e_slice, e_list, e_tup, e_dict, evs, evBool, bindE_ok, bindM_ok, bindS_next, bindS_ret, fin_ret, fin_next, upd_at, rho_at, is_ii, is_ib, is_ss, is_tt, is_ll, is_bb, tV_bool, tV_int, bV_addI, bV_subI, bV_mulI, bV_fdivI, bV_modI, bV_powI, cV_lt, cV_le, cV_gt, cV_ge, cV_eqI, cV_neI, cV_eqS, cV_neS, bf_lenS, bf_lenL, bf_lenT, bf_min, bf_max, bf_abs, bf_r1, bf_r2, bf_r3, mkList, mkL, lim, Bf.long, Bm.long, Bool.not_true, Bool.not_false, if_true, if_false, reduceCtorEq, Option.map_some, Option.bind_some, Bool.false_and, Bool.true_and, Bool.and_true, Bool.and_false, Bool.or_false, Bool.or_true, Option.some.injEq, List.getElem?_cons_zero, List.getElem?_cons_succ, List.length_cons, List.length_nil, Nat.zero_add, Nat.reduceAdd, V.isNone, Bool.false_eq_true, and_self, ite_true, ite_false, decide_true, decide_false, Nat.succ_ne_zero, Nat.reduceEqDiff, Nat.reduceLeDiff, Bool.true_eq_false, h1, h2, h3, h4]
        · simp only [execs, x_expr, x_assign, x_setattr, x_setidx, x_ite, x_ret, e_cNone, e_cBool, e_cInt, e_cStr, e_var, e_bin, e_cmp, e_bool, e_not, e_neg, e_fcall, e_new, e_mcall, e_bcall, e_bmeth, e_isinst, e_attr, e_idx, e_slice, e_list, e_tup, e_dict, evs, evBool, bindE_ok, bindM_ok, bindS_next, bindS_ret, fin_ret, fin_next, upd_at, rho_at, is_ii, is_ib, is_ss, is_tt, is_ll, is_bb, tV_bool, tV_int, bV_addI, bV_subI, bV_mulI, bV_fdivI, bV_modI, bV_powI, cV_lt, cV_le, cV_gt, cV_ge, cV_eqI, cV_neI, cV_eqS, cV_neS, bf_lenS, bf_lenL, bf_lenT, bf_min, bf_max, bf_abs, bf_r1, bf_r2, bf_r3, mkList, mkL, lim, Bf.long, Bm.long, Bool.not_true, Bool.not_false, if_true, if_false, reduceCtorEq, Option.map_some, Option.bind_some, Bool.false_and, Bool.true_and, Bool.and_true, Bool.and_false, Bool.or_false, Bool.or_true, Option.some.injEq, List.getElem?_cons_zero, List.getElem?_cons_succ, List.length_cons, List.length_nil, Nat.zero_add, Nat.reduceAdd, V.isNone, Bool.false_eq_true, and_self, ite_true, ite_false, decide_true, decide_false, Nat.succ_ne_zero, Nat.reduceEqDiff, Nat.reduceLeDiff, Bool.true_eq_false, h1, h2, h3, h4, i0, i3, hb', hsl, hcp, bmPre, hpre, hap])
    (upd (rhoOf [.ref m, .str p, .int b, .int k]) 4 (.ref σ.n)) (σ.new (.list false [])) ⟨by simp, rfl, rfl, rfl, rfl⟩
  rw [Nat.zero_add, List.take_length] at e
  have hcut : sliceV false (.ref q) (.int g) .none (σ.new (.list false [])) = some (.ok (.lst (all.drop g)), σ.new (.list false [])) := by
    have c1 := cl_int (g : Int) all.length (by omega)
    have ec : cutL all (min (g : Int).toNat all.length) all.length = all.drop g := by
      unfold cutL
      rw [List.take_length, Int.toNat_natCast, Nat.min_def]
      split
      · rfl
      · rw [List.drop_length, List.drop_of_length_le (by omega)]
    simp only [sliceV, seqOf, hq1, c1, ch_none, mkL, Bool.false_eq_true, if_false, ec]
  have hit : ev P (run P n) false (.slice false (.idx (.var 0) (.cStr "rows")) (.idx (.var 0) (.cStr "gone")) .cNone) (upd (rhoOf [.ref m, .str p, .int b, .int k]) 4 (.ref σ.n)) (σ.new (.list false [])) = some (.ok (.lst (all.drop g)), σ.new (.list false [])) := by
    simp only [execs, x_expr, x_assign, x_setattr, x_setidx, x_ite, x_ret, e_cNone, e_cBool, e_cInt, e_cStr, e_var, e_bin, e_cmp, e_bool, e_not, e_neg, e_fcall, e_new, e_mcall, e_bcall, e_bmeth, e_isinst, e_attr, e_idx, e_slice, e_list, e_tup, e_dict, evs, evBool, bindE_ok, bindM_ok, bindS_next, bindS_ret, fin_ret, fin_next, upd_at, rho_at, is_ii, is_ib, is_ss, is_tt, is_ll, is_bb, tV_bool, tV_int, bV_addI, bV_subI, bV_mulI, bV_fdivI, bV_modI, bV_powI, cV_lt, cV_le, cV_gt, cV_ge, cV_eqI, cV_neI, cV_eqS, cV_neS, bf_lenS, bf_lenL, bf_lenT, bf_min, bf_max, bf_abs, bf_r1, bf_r2, bf_r3, mkList, mkL, lim, Bf.long, Bm.long, Bool.not_true, Bool.not_false, if_true, if_false, reduceCtorEq, Option.map_some, Option.bind_some, Bool.false_and, Bool.true_and, Bool.and_true, Bool.and_false, Bool.or_false, Bool.or_true, Option.some.injEq, List.getElem?_cons_zero, List.getElem?_cons_succ, List.length_cons, List.length_nil, Nat.zero_add, Nat.reduceAdd, V.isNone, Bool.false_eq_true, and_self, ite_true, ite_false, decide_true, decide_false, Nat.succ_ne_zero, Nat.reduceEqDiff, Nat.reduceLeDiff, Bool.true_eq_false, ds_rows _ _ _ _ _ hm1, ds_gone _ _ _ _ _ hm1, hcut]
  have hfor := x_for1 P (run P n) false _ _ hit rfl hloop
  rw [e] at hfor
  simp only [loopEnd, unlockV, Bool.false_eq_true, if_false] at hfor
  refine ⟨.list false ((all.drop g).filter (sel b p)), ?_⟩
  have ha : (σ.new (.list false ((all.drop g).filter (sel b p)))).get σ.n = some (.list false ((all.drop g).filter (sel b p))) := by rw [get_new, if_pos rfl]
  have hout : sliceV false (.ref σ.n) .none (.int k) (σ.new (.list false ((all.drop g).filter (sel b p)))) = some (.ok (.lst (((all.drop g).filter (sel b p)).take k.toNat)), σ.new (.list false ((all.drop g).filter (sel b p)))) := by
    have c1 := ch_int k ((all.drop g).filter (sel b p)).length hk
    have ec : cutL ((all.drop g).filter (sel b p)) 0 (min k.toNat ((all.drop g).filter (sel b p)).length) = ((all.drop g).filter (sel b p)).take k.toNat := by
      unfold cutL
      rw [List.drop_zero, Nat.min_def]
      split
      · rfl
      · rw [List.take_length, List.take_of_length_le (by omega)]
    simp only [sliceV, seqOf, ha, c1, cl_none, mkL, Bool.false_eq_true, if_false, ec]
  simp only [f__law_wanted, execs, x_expr, x_assign, x_setattr, x_setidx, x_ite, x_ret, e_cNone, e_cBool, e_cInt, e_cStr, e_var, e_bin, e_cmp, e_bool, e_not, e_neg, e_fcall, e_new, e_mcall, e_bcall, e_bmeth, e_isinst, e_attr, e_idx, e_slice, e_list, e_tup, e_dict, evs, evBool, bindE_ok, bindM_ok, bindS_next, bindS_ret, fin_ret, fin_next, upd_at, rho_at, is_ii, is_ib, is_ss, is_tt, is_ll, is_bb, tV_bool, tV_int, bV_addI, bV_subI, bV_mulI, bV_fdivI, bV_modI, bV_powI, cV_lt, cV_le, cV_gt, cV_ge, cV_eqI, cV_neI, cV_eqS, cV_neS, bf_lenS, bf_lenL, bf_lenT, bf_min, bf_max, bf_abs, bf_r1, bf_r2, bf_r3, mkList, mkL, lim, Bf.long, Bm.long, Bool.not_true, Bool.not_false, if_true, if_false, reduceCtorEq, Option.map_some, Option.bind_some, Bool.false_and, Bool.true_and, Bool.and_true, Bool.and_false, Bool.or_false, Bool.or_true, Option.some.injEq, List.getElem?_cons_zero, List.getElem?_cons_succ, List.length_cons, List.length_nil, Nat.zero_add, Nat.reduceAdd, V.isNone, Bool.false_eq_true, and_self, ite_true, ite_false, decide_true, decide_false, Nat.succ_ne_zero, Nat.reduceEqDiff, Nat.reduceLeDiff, Bool.true_eq_false, hfor, h3, h4, hout]
end Lw.L02
namespace Lw.L02
open PySem

noncomputable def logO (g : Int) (r : Nat) : O := .inst "Log" [("gone", .int g), ("rows", .ref r)]
noncomputable def mineO (q : Nat) (g : Int) (t : Nat) : O := .ds false [(Str.ofString "rows", .ref q), (Str.ofString "gone", .int g), (Str.ofString "told", .ref t)]

theorem a_rows {σ : St} {l r : Nat} {g : Int} (h : σ.get l = some (logO g r)) : attrV σ (.ref l) "rows" = some (.ref r) := by simp only [attrV, h, logO]; rfl
theorem a_gone {σ : St} {l r : Nat} {g : Int} (h : σ.get l = some (logO g r)) : attrV σ (.ref l) "gone" = some (.int g) := by simp only [attrV, h, logO]; rfl
theorem m_log {σ : St} {l r : Nat} {g : Int} (h : σ.get l = some (logO g r)) (m : String) (hm : m ∈ ["note", "last", "first", "wanted", "forget"]) : methV P σ (.ref l) m = some "Log" := by
  simp only [methV, h, logO]
  simp only [List.mem_cons, List.not_mem_nil, or_false] at hm
  rcases hm with rfl | rfl | rfl | rfl | rfl <;> rfl
theorem last_at (n : Nat) (hd : Bool) (l r : Nat) (g : Int) (rs : List V) (σ : St) (hl : σ.get l = some (logO g r)) (hr : σ.get r = some (.list false rs)) :
    run P (n + 1) hd "Log" "last" [.ref l] [] σ = some (.ok (.int (g + rs.length)), σ) := by
  rw [run_call (fn := f_Log_last) (vs := [.ref l]) rfl rfl rfl]
  simp only [f_Log_last, execs, x_expr, x_assign, x_setattr, x_setidx, x_ite, x_ret, e_cNone, e_cBool, e_cInt, e_cStr, e_var, e_bin, e_cmp, e_bool, e_not, e_neg, e_fcall, e_new, e_mcall, e_bcall, e_bmeth, e_isinst, e_attr, e_idx, e_slice, e_list, e_tup, e_dict, evs, evBool, bindE_ok, bindM_ok, bindS_next, bindS_ret, fin_ret, fin_next, upd_at, rho_at, is_ii, is_ib, is_ss, is_tt, is_ll, is_bb, tV_bool, tV_int, bV_addI, bV_subI, bV_mulI, bV_fdivI, bV_modI, bV_powI, cV_lt, cV_le, cV_gt, cV_ge, cV_eqI, cV_neI, cV_eqS, cV_neS, bf_lenS, bf_lenL, bf_lenT, bf_min, bf_max, bf_abs, bf_r1, bf_r2, bf_r3, mkList, mkL, lim, Bf.long, Bm.long, Bool.not_true, Bool.not_false, if_true, if_false, reduceCtorEq, Option.map_some, Option.bind_some, Bool.false_and, Bool.true_and, Bool.and_true, Bool.and_false, Bool.or_false, Bool.or_true, Option.some.injEq, List.getElem?_cons_zero, List.getElem?_cons_succ, List.length_cons, List.length_nil, Nat.zero_add, Nat.reduceAdd, V.isNone, Bool.false_eq_true, and_self, ite_true, ite_false, decide_true, decide_false, Nat.succ_ne_zero, Nat.reduceEqDiff, Nat.reduceLeDiff, Bool.true_eq_false, a_rows hl, a_gone hl, len_ref hr]
theorem first_at (n : Nat) (hd : Bool) (l r : Nat) (g : Int) (σ : St) (hl : σ.get l = some (logO g r)) :
    run P (n + 1) hd "Log" "first" [.ref l] [] σ = some (.ok (.int (g + 1)), σ) := by
  rw [run_call (fn := f_Log_first) (vs := [.ref l]) rfl rfl rfl]
  simp only [f_Log_first, execs, x_expr, x_assign, x_setattr, x_setidx, x_ite, x_ret, e_cNone, e_cBool, e_cInt, e_cStr, e_var, e_bin, e_cmp, e_bool, e_not, e_neg, e_fcall, e_new, e_mcall, e_bcall, e_bmeth, e_isinst, e_attr, e_idx, e_slice, e_list, e_tup, e_dict, evs, evBool, bindE_ok, bindM_ok, bindS_next, bindS_ret, fin_ret, fin_next, upd_at, rho_at, is_ii, is_ib, is_ss, is_tt, is_ll, is_bb, tV_bool, tV_int, bV_addI, bV_subI, bV_mulI, bV_fdivI, bV_modI, bV_powI, cV_lt, cV_le, cV_gt, cV_ge, cV_eqI, cV_neI, cV_eqS, cV_neS, bf_lenS, bf_lenL, bf_lenT, bf_min, bf_max, bf_abs, bf_r1, bf_r2, bf_r3, mkList, mkL, lim, Bf.long, Bm.long, Bool.not_true, Bool.not_false, if_true, if_false, reduceCtorEq, Option.map_some, Option.bind_some, Bool.false_and, Bool.true_and, Bool.and_true, Bool.and_false, Bool.or_false, Bool.or_true, Option.some.injEq, List.getElem?_cons_zero, List.getElem?_cons_succ, List.length_cons, List.length_nil, Nat.zero_add, Nat.reduceAdd, V.isNone, Bool.false_eq_true, and_self, ite_true, ite_false, decide_true, decide_false, Nat.succ_ne_zero, Nat.reduceEqDiff, Nat.reduceLeDiff, Bool.true_eq_false, a_gone hl]
theorem note_at (n : Nat) (l r : Nat) (g : Int) (rs : List V) (σ : St) (tk : Int) (w k x : Str) (hl : σ.get l = some (logO g r)) (hr : σ.get r = some (.list false rs)) (hL : rs.length < 100000) :
    run P (n + 2) false "Log" "note" [.ref l, .int tk, .str w, .str k, .str x] [] σ = some (.ok (.int (g + rs.length + 1)), σ.set r (.list false (rs ++ [.tup [.int (g + rs.length + 1), .int tk, .str w, .str k, .str x]]))) := by
  rw [run_call (fn := f_Log_note) (vs := [.ref l, .int tk, .str w, .str k, .str x]) rfl rfl rfl]
  have hL' : rs.length < lim := by unfold lim; omega
  simp only [f_Log_note, execs, x_expr, x_assign, x_setattr, x_setidx, x_ite, x_ret, e_cNone, e_cBool, e_cInt, e_cStr, e_var, e_bin, e_cmp, e_bool, e_not, e_neg, e_fcall, e_new, e_mcall, e_bcall, e_bmeth, e_isinst, e_attr, e_idx, e_slice, e_list, e_tup, e_dict, evs, evBool, bindE_ok, bindM_ok, bindS_next, bindS_ret, fin_ret, fin_next, upd_at, rho_at, is_ii, is_ib, is_ss, is_tt, is_ll, is_bb, tV_bool, tV_int, bV_addI, bV_subI, bV_mulI, bV_fdivI, bV_modI, bV_powI, cV_lt, cV_le, cV_gt, cV_ge, cV_eqI, cV_neI, cV_eqS, cV_neS, bf_lenS, bf_lenL, bf_lenT, bf_min, bf_max, bf_abs, bf_r1, bf_r2, bf_r3, mkList, mkL, lim, Bf.long, Bm.long, Bool.not_true, Bool.not_false, if_true, if_false, reduceCtorEq, Option.map_some, Option.bind_some, Bool.false_and, Bool.true_and, Bool.and_true, Bool.and_false, Bool.or_false, Bool.or_true, Option.some.injEq, List.getElem?_cons_zero, List.getElem?_cons_succ, List.length_cons, List.length_nil, Nat.zero_add, Nat.reduceAdd, V.isNone, Bool.false_eq_true, and_self, ite_true, ite_false, decide_true, decide_false, Nat.succ_ne_zero, Nat.reduceEqDiff, Nat.reduceLeDiff, Bool.true_eq_false, m_log hl "last" (by simp), last_at n false l r g rs σ hl hr, List.zip_nil_left, List.zip_nil_right, a_rows hl, bmPre, isL_ref hr, append_ref hr hL']

structure At (σ : St) (l m r q t : Nat) (all : List V) (g : Nat) : Prop where
  hl : σ.get l = some (logO g r)
  hr : σ.get r = some (.list false (all.drop g))
  hm : σ.get m = some (mineO q g t)
  hq : σ.get q = some (.list false all)
  ht : σ.get t = some (.list false [])
  hg : g ≤ all.length
  rows : Rows all
  nd : [l, r, m, q, t].Nodup
  lt : ∀ x ∈ [l, r, m, q, t], x < σ.n

theorem drawn' (σ : St) (vs : List V) (i : Int) (h0 : 0 ≤ i) (hm : i < vs.length) (h2 : vs.length < 1000) : ∃ x ∈ vs, idxV σ (.lst vs) (.int i) = some x := by
  obtain ⟨x, hx, hmm⟩ := get_lt vs i.toNat (by omega)
  have := place_nat i.toNat vs.length (by omega) (by omega)
  rw [show ((i.toNat : Nat) : Int) = i by omega] at this
  exact ⟨x, hmm, by rw [iV_lst, this]; exact hx⟩

theorem noted_at (n : Nat) (l m r q t : Nat) (all : List V) (g : Nat) (σ : St) (H : At σ l m r q t all g) (hL : all.length < 50000) (ss : List Str) (h6 : ss.length = 6) (c d : Int) :
    ∃ row, (∃ j, 0 < j ∧ IsRow j row) ∧ run P (n + 3) false "" "_law_noted" [.ref l, .ref m, .lst (ss.map .str), .int c, .int d] [] σ = some (.ok (.bool true), (σ.set q (.list false (all ++ [row]))).set r (.list false ((all ++ [row]).drop g))) := by
  obtain ⟨hl, hr, hm, hq, ht, hg, rows, nd, lt⟩ := H
  simp only [List.nodup_cons, List.mem_cons, List.not_mem_nil, or_false, not_or, List.nodup_nil, not_false_eq_true, and_true] at nd
  obtain ⟨⟨lr, lm, lq, lt'⟩, ⟨rm, rq, rt⟩, ⟨mq, mt⟩, qt⟩ := nd
  rw [run_call (fn := f__law_noted) (vs := [.ref l, .ref m, .lst (ss.map .str), .int c, .int d]) rfl rfl rfl]
  obtain ⟨x1, hx1, e1⟩ := drawn' σ [.int (c % 5), .int (d % 41)] (c / 12 % 5 / 4) (by omega) (by simp; omega) (by simp)
  have hk : ∃ k : Int, 0 ≤ k ∧ k ≤ 41 ∧ x1 = .int k := by
    simp only [List.mem_cons, List.not_mem_nil, or_false] at hx1
    rcases hx1 with rfl | rfl
    · exact ⟨_, Int.emod_nonneg _ (by decide), by omega, rfl⟩
    · exact ⟨_, Int.emod_nonneg _ (by decide), by omega, rfl⟩
  obtain ⟨k, hk0, hk1, rfl⟩ := hk
  obtain ⟨val, _, e2⟩ := text_at n d k σ hk0 (Int.le_trans hk1 (by decide))
  obtain ⟨x2, hx2, e3⟩ := drawn σ [.str (Str.ofString "put"), .str (Str.ofString "cut")] c 2 (by decide) (by decide) (by simp)
  obtain ⟨x3, hx3, e4⟩ := drawn σ (ss.map .str) (c / 2) 6 (by decide) (by decide) (by simp [h6])
  obtain ⟨x4, hx4, e5⟩ := drawn σ [.str val, .str (Str.ofString "")] c 2 (by decide) (by decide) (by simp)
  have s2 : ∃ s, x2 = .str s := by simp only [List.mem_cons, List.not_mem_nil, or_false] at hx2; rcases hx2 with rfl | rfl <;> exact ⟨_, rfl⟩
  have s3 : ∃ s, x3 = .str s := by simp only [List.mem_map] at hx3; obtain ⟨s, _, rfl⟩ := hx3; exact ⟨s, rfl⟩
  have s4 : ∃ s, x4 = .str s := by simp only [List.mem_cons, List.not_mem_nil, or_false] at hx4; rcases hx4 with rfl | rfl <;> exact ⟨_, rfl⟩
  obtain ⟨w, rfl⟩ := s2
  obtain ⟨key, rfl⟩ := s3
  obtain ⟨v, rfl⟩ := s4
  have hne : cmpV σ .ne (.ref q) (.lst []) = some (!decide (all = [])) := by simp only [cmpV, eq_nil hq (rows.data σ), Option.map_some]
  have hLl : all.length < lim := by unfold lim; omega
  have htk : ∃ tk : Int, execs P (run P (n + 2)) false [.ite (.cmp .ne (.idx (.var 1) (.cStr "rows")) (.list false [])) [.assign 6 (.bin .add (.bin .mod (.var 6) (.cInt 7)) (.idx (.idx (.idx (.var 1) (.cStr "rows")) (.neg (.cInt 1))) (.cInt 1)))] []] (upd (upd (rhoOf [.ref l, .ref m, .lst (ss.map .str), .int c, .int d]) 5 (.str val)) 6 (.int (d % 1000))) σ
      = some (.next, (if all = [] then id else fun ρ => upd ρ 6 (.int tk)) (upd (upd (rhoOf [.ref l, .ref m, .lst (ss.map .str), .int c, .int d]) 5 (.str val)) 6 (.int (d % 1000))), σ) ∧ (all = [] → tk = d % 1000) := by
    by_cases ha : all = []
    · refine ⟨d % 1000, ?_, fun _ => rfl⟩
      simp only [execs, x_expr, x_assign, x_setattr, x_setidx, x_ite, x_ret, e_cNone, e_cBool, e_cInt, e_cStr, e_var, e_bin, e_cmp, e_bool, e_not, e_neg, e_fcall, e_new, e_mcall, e_bcall, e_bmeth, e_isinst, e_attr, e_idx, e_slice, e_list, e_tup, e_dict, evs, evBool, bindE_ok, bindM_ok, bindS_next, bindS_ret, fin_ret, fin_next, upd_at, rho_at, is_ii, is_ib, is_ss, is_tt, is_ll, is_bb, tV_bool, tV_int, bV_addI, bV_subI, bV_mulI, bV_fdivI, bV_modI, bV_powI, cV_lt, cV_le, cV_gt, cV_ge, cV_eqI, cV_neI, cV_eqS, cV_neS, bf_lenS, bf_lenL, bf_lenT, bf_min, bf_max, bf_abs, bf_r1, bf_r2, bf_r3, mkList, mkL, lim, Bf.long, Bm.long, Bool.not_true, Bool.not_false, if_true, if_false, reduceCtorEq, Option.map_some, Option.bind_some, Bool.false_and, Bool.true_and, Bool.and_true, Bool.and_false, Bool.or_false, Bool.or_true, Option.some.injEq, List.getElem?_cons_zero, List.getElem?_cons_succ, List.length_cons, List.length_nil, Nat.zero_add, Nat.reduceAdd, V.isNone, Bool.false_eq_true, and_self, ite_true, ite_false, decide_true, decide_false, Nat.succ_ne_zero, Nat.reduceEqDiff, Nat.reduceLeDiff, Bool.true_eq_false, ds_rows _ _ _ _ _ hm, hne, ha, id]
    · have hpos : 0 < all.length := by cases all with | nil => exact absurd rfl ha | cons => simp
      obtain ⟨u, hu, hmem⟩ := get_lt all (all.length - 1) (Nat.sub_lt hpos (by decide))
      obtain ⟨j, _, t0, w0, k0, x0, rfl⟩ := rows u hmem
      have il : idxV σ (.ref q) (.int (-1)) = some (.tup [.int j, .int t0, .str w0, .str k0, .str x0]) := by
        show (σ.get q).bind (idxO (.int (-1))) = _
        rw [hq]
        show (place (-1) all.length).bind _ = _
        rw [place_last _ hpos]; exact hu
      have i1 : idxV σ (.tup [.int j, .int t0, .str w0, .str k0, .str x0]) (.int 1) = some (.int t0) := rfl
      refine ⟨d % 1000 % 7 + t0, ?_, fun e => absurd e ha⟩
      simp only [execs, x_expr, x_assign, x_setattr, x_setidx, x_ite, x_ret, e_cNone, e_cBool, e_cInt, e_cStr, e_var, e_bin, e_cmp, e_bool, e_not, e_neg, e_fcall, e_new, e_mcall, e_bcall, e_bmeth, e_isinst, e_attr, e_idx, e_slice, e_list, e_tup, e_dict, evs, evBool, bindE_ok, bindM_ok, bindS_next, bindS_ret, fin_ret, fin_next, upd_at, rho_at, is_ii, is_ib, is_ss, is_tt, is_ll, is_bb, tV_bool, tV_int, bV_addI, bV_subI, bV_mulI, bV_fdivI, bV_modI, bV_powI, cV_lt, cV_le, cV_gt, cV_ge, cV_eqI, cV_neI, cV_eqS, cV_neS, bf_lenS, bf_lenL, bf_lenT, bf_min, bf_max, bf_abs, bf_r1, bf_r2, bf_r3, mkList, mkL, lim, Bf.long, Bm.long, Bool.not_true, Bool.not_false, if_true, if_false, reduceCtorEq, Option.map_some, Option.bind_some, Bool.false_and, Bool.true_and, Bool.and_true, Bool.and_false, Bool.or_false, Bool.or_true, Option.some.injEq, List.getElem?_cons_zero, List.getElem?_cons_succ, List.length_cons, List.length_nil, Nat.zero_add, Nat.reduceAdd, V.isNone, Bool.false_eq_true, and_self, ite_true, ite_false, decide_true, decide_false, Nat.succ_ne_zero, Nat.reduceEqDiff, Nat.reduceLeDiff, Bool.true_eq_false, ds_rows _ _ _ _ _ hm, hne, ha, il, i1, Int.reduceNeg, Int.reduceLT]
  obtain ⟨tk, htk, htk0⟩ := htk
  have hrow : ∃ row tk', row = V.tup [.int (all.length + 1), .int tk', .str w, .str key, .str v] ∧ ((if all = [] then id else fun ρ => upd ρ 6 (.int tk)) (upd (upd (rhoOf [.ref l, .ref m, .lst (ss.map .str), .int c, .int d]) 5 (.str val)) 6 (.int (d % 1000)))) 6 = some (.int tk') := by
    by_cases ha : all = []
    · exact ⟨_, d % 1000, rfl, by rw [if_pos ha]; rfl⟩
    · exact ⟨_, tk, rfl, by rw [if_neg ha]; rfl⟩
  obtain ⟨row, tk', hrow, h6'⟩ := hrow
  have hρ : ∀ j, j ≠ 6 → ((if all = [] then id else fun ρ => upd ρ 6 (.int tk)) (upd (upd (rhoOf [.ref l, .ref m, .lst (ss.map .str), .int c, .int d]) 5 (.str val)) 6 (.int (d % 1000)))) j = (upd (rhoOf [.ref l, .ref m, .lst (ss.map .str), .int c, .int d]) 5 (.str val)) j := fun j hj => by
    by_cases ha : all = []
    · rw [if_pos ha]; show upd _ 6 _ j = _; rw [upd_ne _ _ _ _ hj]
    · rw [if_neg ha]; show upd (upd _ 6 _) 6 _ j = _; rw [upd_ne _ _ _ _ hj, upd_ne _ _ _ _ hj]
  generalize hR : ((if all = [] then id else fun ρ => upd ρ 6 (.int tk)) (upd (upd (rhoOf [.ref l, .ref m, .lst (ss.map .str), .int c, .int d]) 5 (.str val)) 6 (.int (d % 1000)))) = R at htk h6' hρ
  have r0 : R 0 = some (.ref l) := hρ 0 (by decide)
  have r1 : R 1 = some (.ref m) := hρ 1 (by decide)
  have r2 : R 2 = some (.lst (ss.map .str)) := hρ 2 (by decide)
  have r3 : R 3 = some (.int c) := hρ 3 (by decide)
  have r5 : R 5 = some (.str val) := hρ 5 (by decide)
  refine ⟨row, ⟨all.length + 1, Nat.succ_pos _, tk', w, key, v, by rw [hrow]; rfl⟩, ?_⟩
  have hl2 : (σ.set q (.list false (all ++ [row]))).get l = some (logO g r) := by rw [get_set, if_neg lq]; exact hl
  have hr2 : (σ.set q (.list false (all ++ [row]))).get r = some (.list false (all.drop g)) := by rw [get_set, if_neg rq]; exact hr
  have hdl : (all.drop g).length < 100000 := by rw [List.length_drop]; omega
  have hnote := note_at n l r g (all.drop g) (σ.set q (.list false (all ++ [row]))) tk' w key v hl2 hr2 hdl
  have hnum : (g : Int) + ((all.drop g).length : Int) + 1 = all.length + 1 := by rw [List.length_drop]; omega
  rw [hnum, ← hrow, ← List.drop_append_of_le_length hg] at hnote
  have hex : exec P (run P (n + 2)) false (.ite (.cmp .ne (.idx (.var 1) (.cStr "rows")) (.list false [])) [.assign 6 (.bin .add (.bin .mod (.var 6) (.cInt 7)) (.idx (.idx (.idx (.var 1) (.cStr "rows")) (.neg (.cInt 1))) (.cInt 1)))] []) (upd (upd (rhoOf [.ref l, .ref m, .lst (ss.map .str), .int c, .int d]) 5 (.str val)) 6 (.int (d % 1000))) σ = some (.next, R, σ) := by
    simp only [execs] at htk
    cases hh : exec P (run P (n + 2)) false (.ite (.cmp .ne (.idx (.var 1) (.cStr "rows")) (.list false [])) [.assign 6 (.bin .add (.bin .mod (.var 6) (.cInt 7)) (.idx (.idx (.idx (.var 1) (.cStr "rows")) (.neg (.cInt 1))) (.cInt 1)))] []) (upd (upd (rhoOf [.ref l, .ref m, .lst (ss.map .str), .int c, .int d]) 5 (.str val)) 6 (.int (d % 1000))) σ with
    | none => rw [hh] at htk; cases htk
    | some qq =>
      obtain ⟨fl, a, b⟩ := qq
      rw [hh] at htk
      cases fl <;> simp only [bindS, Option.some.injEq, Prod.mk.injEq, reduceCtorEq, false_and] at htk
      rw [htk.2.1, htk.2.2]
  have hbody : f__law_noted.body = [.assign 5 (.fcall "_law_text" [(.var 4), (.idx (.list false [(.bin .mod (.var 3) (.cInt 5)), (.bin .mod (.var 4) (.cInt 41))]) (.bin .fdiv (.bin .mod (.bin .fdiv (.var 3) (.cInt 12)) (.cInt 5)) (.cInt 4)))]),
  .assign 6 (.bin .mod (.var 4) (.cInt 1000)),
  .ite (.cmp .ne (.idx (.var 1) (.cStr "rows")) (.list false [])) [.assign 6 (.bin .add (.bin .mod (.var 6) (.cInt 7)) (.idx (.idx (.idx (.var 1) (.cStr "rows")) (.neg (.cInt 1))) (.cInt 1)))] []] ++ f__law_noted.body.drop 3 := rfl
  have x1 : exec P (run P (n + 2)) false (.assign 5 (.fcall "_law_text" [(.var 4), (.idx (.list false [(.bin .mod (.var 3) (.cInt 5)), (.bin .mod (.var 4) (.cInt 41))]) (.bin .fdiv (.bin .mod (.bin .fdiv (.var 3) (.cInt 12)) (.cInt 5)) (.cInt 4)))])) (rhoOf [.ref l, .ref m, .lst (ss.map .str), .int c, .int d]) σ = some (.next, upd (rhoOf [.ref l, .ref m, .lst (ss.map .str), .int c, .int d]) 5 (.str val), σ) := by
    simp only [execs, x_expr, x_assign, x_setattr, x_setidx, x_ite, x_ret, e_cNone, e_cBool, e_cInt, e_cStr, e_var, e_bin, e_cmp, e_bool, e_not, e_neg, e_fcall, e_new, e_mcall, e_bcall, e_bmeth, e_isinst, e_attr, e_idx, e_slice, e_list, e_tup, e_dict, evs, evBool, bindE_ok, bindM_ok, bindS_next, bindS_ret, fin_ret, fin_next, upd_at, rho_at, is_ii, is_ib, is_ss, is_tt, is_ll, is_bb, tV_bool, tV_int, bV_addI, bV_subI, bV_mulI, bV_fdivI, bV_modI, bV_powI, cV_lt, cV_le, cV_gt, cV_ge, cV_eqI, cV_neI, cV_eqS, cV_neS, bf_lenS, bf_lenL, bf_lenT, bf_min, bf_max, bf_abs, bf_r1, bf_r2, bf_r3, mkList, mkL, lim, Bf.long, Bm.long, Bool.not_true, Bool.not_false, if_true, if_false, reduceCtorEq, Option.map_some, Option.bind_some, Bool.false_and, Bool.true_and, Bool.and_true, Bool.and_false, Bool.or_false, Bool.or_true, Option.some.injEq, List.getElem?_cons_zero, List.getElem?_cons_succ, List.length_cons, List.length_nil, Nat.zero_add, Nat.reduceAdd, V.isNone, Bool.false_eq_true, and_self, ite_true, ite_false, decide_true, decide_false, Nat.succ_ne_zero, Nat.reduceEqDiff, Nat.reduceLeDiff, Bool.true_eq_false, Int.reduceLT, e1, e2]
  have x2 : exec P (run P (n + 2)) false (.assign 6 (.bin .mod (.var 4) (.cInt 1000))) (upd (rhoOf [.ref l, .ref m, .lst (ss.map .str), .int c, .int d]) 5 (.str val)) σ = some (.next, upd (upd (rhoOf [.ref l, .ref m, .lst (ss.map .str), .int c, .int d]) 5 (.str val)) 6 (.int (d % 1000)), σ) := by
    simp only [execs, x_expr, x_assign, x_setattr, x_setidx, x_ite, x_ret, e_cNone, e_cBool, e_cInt, e_cStr, e_var, e_bin, e_cmp, e_bool, e_not, e_neg, e_fcall, e_new, e_mcall, e_bcall, e_bmeth, e_isinst, e_attr, e_idx, e_slice, e_list, e_tup, e_dict, evs, evBool, bindE_ok, bindM_ok, bindS_next, bindS_ret, fin_ret, fin_next, upd_at, rho_at, is_ii, is_ib, is_ss, is_tt, is_ll, is_bb, tV_bool, tV_int, bV_addI, bV_subI, bV_mulI, bV_fdivI, bV_modI, bV_powI, cV_lt, cV_le, cV_gt, cV_ge, cV_eqI, cV_neI, cV_eqS, cV_neS, bf_lenS, bf_lenL, bf_lenT, bf_min, bf_max, bf_abs, bf_r1, bf_r2, bf_r3, mkList, mkL, lim, Bf.long, Bm.long, Bool.not_true, Bool.not_false, if_true, if_false, reduceCtorEq, Option.map_some, Option.bind_some, Bool.false_and, Bool.true_and, Bool.and_true, Bool.and_false, Bool.or_false, Bool.or_true, Option.some.injEq, List.getElem?_cons_zero, List.getElem?_cons_succ, List.length_cons, List.length_nil, Nat.zero_add, Nat.reduceAdd, V.isNone, Bool.false_eq_true, and_self, ite_true, ite_false, decide_true, decide_false, Nat.succ_ne_zero, Nat.reduceEqDiff, Nat.reduceLeDiff, Bool.true_eq_false, Int.reduceLT]
  rw [hbody]
  simp only [List.cons_append, List.nil_append, execs, x1, x2, hex, bindS_next]
  have j1 : ∀ τ, idxV τ row (.int 1) = some (.int tk') := fun τ => by rw [hrow]; rfl
  have j2 : ∀ τ, idxV τ row (.int 2) = some (.str w) := fun τ => by rw [hrow]; rfl
  have j3 : ∀ τ, idxV τ row (.int 3) = some (.str key) := fun τ => by rw [hrow]; rfl
  have j4 : ∀ τ, idxV τ row (.int 4) = some (.str v) := fun τ => by rw [hrow]; rfl
  have j0 : ∀ τ, idxV τ row (.int 0) = some (.int (all.length + 1)) := fun τ => by rw [hrow]; rfl
  simp only [f__law_noted, List.drop_succ_cons, List.drop_zero, execs, x_expr, x_assign, x_setattr, x_setidx, x_ite, x_ret, e_cNone, e_cBool, e_cInt, e_cStr, e_var, e_bin, e_cmp, e_bool, e_not, e_neg, e_fcall, e_new, e_mcall, e_bcall, e_bmeth, e_isinst, e_attr, e_idx, e_slice, e_list, e_tup, e_dict, evs, evBool, bindE_ok, bindM_ok, bindS_next, bindS_ret, fin_ret, fin_next, upd_at, rho_at, is_ii, is_ib, is_ss, is_tt, is_ll, is_bb, tV_bool, tV_int, bV_addI, bV_subI, bV_mulI, bV_fdivI, bV_modI, bV_powI, cV_lt, cV_le, cV_gt, cV_ge, cV_eqI, cV_neI, cV_eqS, cV_neS, bf_lenS, bf_lenL, bf_lenT, bf_min, bf_max, bf_abs, bf_r1, bf_r2, bf_r3, mkList, mkL, lim, Bf.long, Bm.long, Bool.not_true, Bool.not_false, if_true, if_false, reduceCtorEq, Option.map_some, Option.bind_some, Bool.false_and, Bool.true_and, Bool.and_true, Bool.and_false, Bool.or_false, Bool.or_true, Option.some.injEq, List.getElem?_cons_zero, List.getElem?_cons_succ, List.length_cons, List.length_nil, Nat.zero_add, Nat.reduceAdd, V.isNone, Bool.false_eq_true, and_self, ite_true, ite_false, decide_true, decide_false, Nat.succ_ne_zero, Nat.reduceEqDiff, Nat.reduceLeDiff, Bool.true_eq_false, r0, r1, r2, r3, r5, h6', ds_rows _ _ _ _ _ hm, len_ref hq, e3, e4, e5, Int.reduceLT, ← hrow, bmPre, isL_ref hq, append_ref hq hLl, j0, j1, j2, j3, j4, m_log hl2 "note" (by simp), hnote, List.zip_nil_left, List.zip_nil_right, whole_int]
end Lw.L02
namespace Lw.L02
open PySem

theorem At.mono {σ σ' : St} {l m r q t : Nat} {all : List V} {g : Nat} (H : At σ l m r q t all g) (hn : σ.n ≤ σ'.n) (h : ∀ x ∈ [l, r, m, q, t], σ'.get x = σ.get x) : At σ' l m r q t all g :=
  ⟨(h l (by simp)).trans H.hl, (h r (by simp)).trans H.hr, (h m (by simp)).trans H.hm, (h q (by simp)).trans H.hq, (h t (by simp)).trans H.ht, H.hg, H.rows, H.nd, fun x hx => Nat.lt_of_lt_of_le (H.lt x hx) hn⟩

noncomputable def Good (σ σ' : St) (l m r q t : Nat) (B : Nat) : Prop := Frame [l, r, m, q, t] σ σ' ∧ ∃ r' t' all' g', At σ' l m r' q t' all' g' ∧ all'.length ≤ B ∧ (r' = r ∨ σ.n ≤ r') ∧ (t' = t ∨ σ.n ≤ t')

theorem ends_at (n : Nat) (l m r q t : Nat) (all : List V) (g : Nat) (σ : St) (H : At σ l m r q t all g) : run P (n + 2) false "" "_law_ends" [.ref l, .ref m] [] σ = some (.ok (.bool true), σ) := by
  obtain ⟨hl, hr, hm, hq, ht, hg, rows, nd, lt⟩ := H
  rw [run_call (fn := f__law_ends) (vs := [.ref l, .ref m]) rfl rfl rfl]
  have h1 := last_at n false l r g (all.drop g) σ hl hr
  have hnum : (g : Int) + ((all.drop g).length : Int) = all.length := by rw [List.length_drop]; omega
  rw [hnum] at h1
  simp only [f__law_ends, execs, x_expr, x_assign, x_setattr, x_setidx, x_ite, x_ret, e_cNone, e_cBool, e_cInt, e_cStr, e_var, e_bin, e_cmp, e_bool, e_not, e_neg, e_fcall, e_new, e_mcall, e_bcall, e_bmeth, e_isinst, e_attr, e_idx, e_slice, e_list, e_tup, e_dict, evs, evBool, bindE_ok, bindM_ok, bindS_next, bindS_ret, fin_ret, fin_next, upd_at, rho_at, is_ii, is_ib, is_ss, is_tt, is_ll, is_bb, tV_bool, tV_int, bV_addI, bV_subI, bV_mulI, bV_fdivI, bV_modI, bV_powI, cV_lt, cV_le, cV_gt, cV_ge, cV_eqI, cV_neI, cV_eqS, cV_neS, bf_lenS, bf_lenL, bf_lenT, bf_min, bf_max, bf_abs, bf_r1, bf_r2, bf_r3, mkList, mkL, lim, Bf.long, Bm.long, Bool.not_true, Bool.not_false, if_true, if_false, reduceCtorEq, Option.map_some, Option.bind_some, Bool.false_and, Bool.true_and, Bool.and_true, Bool.and_false, Bool.or_false, Bool.or_true, Option.some.injEq, List.getElem?_cons_zero, List.getElem?_cons_succ, List.length_cons, List.length_nil, Nat.zero_add, Nat.reduceAdd, V.isNone, Bool.false_eq_true, and_self, ite_true, ite_false, decide_true, decide_false, Nat.succ_ne_zero, Nat.reduceEqDiff, Nat.reduceLeDiff, Bool.true_eq_false, m_log hl "last" (by simp), m_log hl "first" (by simp), h1, first_at n false l r g σ hl, List.zip_nil_left, whole_int, ds_rows _ _ _ _ _ hm, ds_gone _ _ _ _ _ hm, len_ref hq]

theorem set_rows (σ : St) (l r r' : Nat) (g : Int) (h : σ.get l = some (logO g r)) : setattrV (.ref l) "rows" (.ref r') σ = some (σ.set l (logO g r')) := by
  simp only [setattrV, h, logO, List.length_cons, List.length_nil]; rfl
theorem set_gone (σ : St) (l r : Nat) (g g' : Int) (h : σ.get l = some (logO g r)) : setattrV (.ref l) "gone" (.int g') σ = some (σ.set l (logO g' r)) := by
  simp only [setattrV, h, logO, List.length_cons, List.length_nil]; rfl
theorem put_gone (σ : St) (m q t : Nat) (g g' : Int) (h : σ.get m = some (mineO q g t)) : setidxV (.ref m) (.str (Str.ofString "gone")) (.int g') σ = some (σ.set m (mineO q g' t)) := by
  simp only [setidxV, h, mineO]
  simp [st, str_eq, lim]
theorem put_told (σ : St) (m q t t' : Nat) (g : Int) (h : σ.get m = some (mineO q g t)) : setidxV (.ref m) (.str (Str.ofString "told")) (.ref t') σ = some (σ.set m (mineO q g t')) := by
  simp only [setidxV, h, mineO]
  simp [st, str_eq, lim]

theorem forgot_at (n : Nat) (l m r q t : Nat) (all : List V) (g : Nat) (σ : St) (H : At σ l m r q t all g) (hL : all.length < 50000) (c : Int) :
    ∃ σ', run P (n + 3) false "" "_law_forgot" [.ref l, .ref m, .int c] [] σ = some (.ok (.bool true), σ') ∧ Good σ σ' l m r q t all.length := by
  obtain ⟨hl, hr, hm, hq, ht, hg, rows, nd, lt⟩ := H
  have nd' := nd
  simp only [List.nodup_cons, List.mem_cons, List.not_mem_nil, or_false, not_or, List.nodup_nil, not_false_eq_true, and_true] at nd
  obtain ⟨⟨lr, lm, lq, lt'⟩, ⟨rm, rq, rt⟩, ⟨mq, mt⟩, qt⟩ := nd
  have lts := lt
  simp only [List.mem_cons, List.not_mem_nil, or_false, forall_eq_or_imp, forall_eq] at lt
  obtain ⟨ll, lr', lm', lq', lt''⟩ := lt
  have hp1 : 0 < (all.length : Int) + 3 := Int.lt_of_lt_of_le (by decide) (Int.le_add_of_nonneg_left (Int.natCast_nonneg _))
  have hp2 : (all.length : Int) + 3 < 1152921504606846976 := by omega
  have hu := Int.emod_nonneg c (Int.ne_of_gt hp1)
  generalize hU : c % ((all.length : Int) + 3) = u at hu
  have hnum : (g : Int) + ((all.drop g).length : Int) = all.length := by rw [List.length_drop]; omega
  generalize hX : (if (all.length : Int) < u then (all.length : Int) else u) - g = X
  have hbody := run_call (P := P) (n := n + 2) (hd := false) (c := "") (f := "_law_forgot") (fn := f__law_forgot) (args := [.ref l, .ref m, .int c]) (kws := []) (σ := σ) (vs := [.ref l, .ref m, .int c]) rfl rfl rfl
  have lastf : ∀ σ1, σ1.get l = some (logO g r) → σ1.get r = some (.list false (all.drop g)) → run P (n + 1) false "Log" "last" [.ref l] [] σ1 = some (.ok (.int all.length), σ1) := fun σ1 h1 h2 => by
    rw [last_at n false l r g (all.drop g) σ1 h1 h2, hnum]
  by_cases hpos : 0 < X
  · -- some are forgotten
    have e1 : (σ.set m (mineO q ((g : Int) + X) t)).get l = some (logO g r) := by rw [get_set, if_neg lm]; exact hl
    have e2 : (σ.set m (mineO q ((g : Int) + X) t)).get r = some (.list false (all.drop g)) := by rw [get_set, if_neg rm]; exact hr
    have hXl : g + X.toNat ≤ all.length := by
      split at hX <;> omega
    have hsl : sliceV true (.ref r) (.int X) .none (σ.set m (mineO q ((g : Int) + X) t)) = some (.ok (.ref σ.n), (σ.set m (mineO q ((g : Int) + X) t)).new (.list false (all.drop (g + X.toNat)))) := by
      have c1 := cl_int X (all.drop g).length (by omega)
      have ec : cutL (all.drop g) (min X.toNat (all.drop g).length) (all.drop g).length = all.drop (g + X.toNat) := by
        unfold cutL
        rw [List.take_length, Nat.min_eq_left (by rw [List.length_drop]; omega), List.drop_drop]
      simp only [sliceV, seqOf, e2, c1, ch_none, mkL, if_true, ec, n_set]
    let σ2 := (σ.set m (mineO q ((g : Int) + X) t)).new (.list false (all.drop (g + X.toNat)))
    have f1 : σ2.get l = some (logO g r) := by
      show (if l = (σ.set m _).n then _ else _) = _
      rw [n_set, if_neg (Nat.ne_of_lt ll)]; exact e1
    have f2 : (σ2.set l (logO g σ.n)).get l = some (logO g σ.n) := by rw [get_set, if_pos rfl]
    have hforget : run P (n + 2) false "Log" "forget" [.ref l, .int u] [] (σ.set m (mineO q ((g : Int) + X) t)) = some (.ok (.int X), σ2.set l (logO ((g : Int) + X) σ.n)) := by
      rw [run_call (fn := f_Log_forget) (vs := [.ref l, .int u]) rfl rfl rfl]
      have d0 : decide (X ≤ 0) = false := by simp; omega
      simp only [f_Log_forget, execs, x_expr, x_assign, x_setattr, x_setidx, x_ite, x_ret, e_cNone, e_cBool, e_cInt, e_cStr, e_var, e_bin, e_cmp, e_bool, e_not, e_neg, e_fcall, e_new, e_mcall, e_bcall, e_bmeth, e_isinst, e_attr, e_idx, e_slice, e_list, e_tup, e_dict, evs, evBool, bindE_ok, bindM_ok, bindS_next, bindS_ret, fin_ret, fin_next, upd_at, rho_at, is_ii, is_ib, is_ss, is_tt, is_ll, is_bb, tV_bool, tV_int, bV_addI, bV_subI, bV_mulI, bV_fdivI, bV_modI, bV_powI, cV_lt, cV_le, cV_gt, cV_ge, cV_eqI, cV_neI, cV_eqS, cV_neS, bf_lenS, bf_lenL, bf_lenT, bf_min, bf_max, bf_abs, bf_r1, bf_r2, bf_r3, mkList, mkL, lim, Bf.long, Bm.long, Bool.not_true, Bool.not_false, if_true, if_false, reduceCtorEq, Option.map_some, Option.bind_some, Bool.false_and, Bool.true_and, Bool.and_true, Bool.and_false, Bool.or_false, Bool.or_true, Option.some.injEq, List.getElem?_cons_zero, List.getElem?_cons_succ, List.length_cons, List.length_nil, Nat.zero_add, Nat.reduceAdd, V.isNone, Bool.false_eq_true, and_self, ite_true, ite_false, decide_true, decide_false, Nat.succ_ne_zero, Nat.reduceEqDiff, Nat.reduceLeDiff, Bool.true_eq_false, m_log e1 "last" (by simp), lastf _ e1 e2, List.zip_nil_left, a_gone e1, a_rows e1, hX, d0, hsl, set_rows _ _ _ _ _ f1, a_gone f2, set_gone _ _ _ _ _ f2, set_set, σ2]
    have hmax : bfV .max [.int 0, .int X] σ = some (.ok (.int X), σ) := by rw [bf_max, if_pos hpos]
    refine ⟨σ2.set l (logO ((g : Int) + X) σ.n), ?_, ⟨?_, ?_⟩, σ.n, t, all, g + X.toNat, ⟨?_, ?_, ?_, ?_, ?_, hXl, rows, ?_, ?_⟩, Nat.le_refl _, .inr (Nat.le_refl _), .inl rfl⟩
    · rw [hbody]
      simp only [f__law_forgot, execs, x_expr, x_assign, x_setattr, x_setidx, x_ite, x_ret, e_cNone, e_cBool, e_cInt, e_cStr, e_var, e_bin, e_cmp, e_bool, e_not, e_neg, e_fcall, e_new, e_mcall, e_bcall, e_bmeth, e_isinst, e_attr, e_idx, e_slice, e_list, e_tup, e_dict, evs, evBool, bindE_ok, bindM_ok, bindS_next, bindS_ret, fin_ret, fin_next, upd_at, rho_at, is_ii, is_ib, is_ss, is_tt, is_ll, is_bb, tV_bool, tV_int, bV_addI, bV_subI, bV_mulI, bV_fdivI, bV_modI, bV_powI, cV_lt, cV_le, cV_gt, cV_ge, cV_eqI, cV_neI, cV_eqS, cV_neS, bf_lenS, bf_lenL, bf_lenT, bf_min, bf_max, bf_abs, bf_r1, bf_r2, bf_r3, mkList, mkL, lim, Bf.long, Bm.long, Bool.not_true, Bool.not_false, if_true, if_false, reduceCtorEq, Option.map_some, Option.bind_some, Bool.false_and, Bool.true_and, Bool.and_true, Bool.and_false, Bool.or_false, Bool.or_true, Option.some.injEq, List.getElem?_cons_zero, List.getElem?_cons_succ, List.length_cons, List.length_nil, Nat.zero_add, Nat.reduceAdd, V.isNone, Bool.false_eq_true, and_self, ite_true, ite_false, decide_true, decide_false, Nat.succ_ne_zero, Nat.reduceEqDiff, Nat.reduceLeDiff, Bool.true_eq_false, ds_rows _ _ _ _ _ hm, ds_gone _ _ _ _ _ hm, len_ref hq, bV_modI _ _ hp1 hp2, hU, hX, if_pos hpos, put_gone _ _ _ _ _ _ hm, m_log e1 "forget" (by simp), List.zip_nil_left, hforget, whole_int]
    · show σ.n ≤ σ.n + 1
      omega
    · intro j hj hA
      simp only [List.mem_cons, List.not_mem_nil, or_false, not_or] at hA
      show (if j = l then _ else if j = σ.n then _ else if j = m then _ else σ.get j) = σ.get j
      rw [if_neg hA.1, if_neg (Nat.ne_of_lt hj), if_neg hA.2.2.1]
    · show (if l = l then _ else _) = _
      rw [if_pos rfl]
      congr 2; omega
    · show (if σ.n = l then _ else if σ.n = σ.n then _ else _) = _
      rw [if_neg (Nat.ne_of_gt ll), if_pos rfl]
    · show (if m = l then _ else if m = σ.n then _ else if m = m then _ else _) = _
      rw [if_neg (Ne.symm lm), if_neg (Nat.ne_of_lt lm'), if_pos rfl]
      congr 2; omega
    · show (if q = l then _ else if q = σ.n then _ else if q = m then _ else _) = _
      rw [if_neg (Ne.symm lq), if_neg (Nat.ne_of_lt lq'), if_neg (Ne.symm mq)]; exact hq
    · show (if t = l then _ else if t = σ.n then _ else if t = m then _ else _) = _
      rw [if_neg (Ne.symm lt'), if_neg (Nat.ne_of_lt lt''), if_neg (Ne.symm mt)]; exact ht
    · simp only [List.nodup_cons, List.mem_cons, List.not_mem_nil, or_false, not_or, List.nodup_nil, not_false_eq_true, and_true]
      exact ⟨⟨Nat.ne_of_lt ll, lm, lq, lt'⟩, ⟨Nat.ne_of_gt lm', Nat.ne_of_gt lq', Nat.ne_of_gt lt''⟩, ⟨mq, mt⟩, qt⟩
    · show ∀ x ∈ [l, σ.n, m, q, t], x < σ.n + 1
      simp only [List.mem_cons, List.not_mem_nil, or_false, forall_eq_or_imp, forall_eq]
      exact ⟨Nat.lt_succ_of_lt ll, Nat.lt_succ_self _, Nat.lt_succ_of_lt lm', Nat.lt_succ_of_lt lq', Nat.lt_succ_of_lt lt''⟩
  · have e0 : σ.set m (mineO q ((g : Int) + 0) t) = σ := by rw [Int.add_zero]; exact set_same _ _ _ hm
    have hforget : run P (n + 2) false "Log" "forget" [.ref l, .int u] [] σ = some (.ok (.int 0), σ) := by
      rw [run_call (fn := f_Log_forget) (vs := [.ref l, .int u]) rfl rfl rfl]
      have d0 : decide (X ≤ 0) = true := by simp; omega
      simp only [f_Log_forget, execs, x_expr, x_assign, x_setattr, x_setidx, x_ite, x_ret, e_cNone, e_cBool, e_cInt, e_cStr, e_var, e_bin, e_cmp, e_bool, e_not, e_neg, e_fcall, e_new, e_mcall, e_bcall, e_bmeth, e_isinst, e_attr, e_idx, e_slice, e_list, e_tup, e_dict, evs, evBool, bindE_ok, bindM_ok, bindS_next, bindS_ret, fin_ret, fin_next, upd_at, rho_at, is_ii, is_ib, is_ss, is_tt, is_ll, is_bb, tV_bool, tV_int, bV_addI, bV_subI, bV_mulI, bV_fdivI, bV_modI, bV_powI, cV_lt, cV_le, cV_gt, cV_ge, cV_eqI, cV_neI, cV_eqS, cV_neS, bf_lenS, bf_lenL, bf_lenT, bf_min, bf_max, bf_abs, bf_r1, bf_r2, bf_r3, mkList, mkL, lim, Bf.long, Bm.long, Bool.not_true, Bool.not_false, if_true, if_false, reduceCtorEq, Option.map_some, Option.bind_some, Bool.false_and, Bool.true_and, Bool.and_true, Bool.and_false, Bool.or_false, Bool.or_true, Option.some.injEq, List.getElem?_cons_zero, List.getElem?_cons_succ, List.length_cons, List.length_nil, Nat.zero_add, Nat.reduceAdd, V.isNone, Bool.false_eq_true, and_self, ite_true, ite_false, decide_true, decide_false, Nat.succ_ne_zero, Nat.reduceEqDiff, Nat.reduceLeDiff, Bool.true_eq_false, m_log hl "last" (by simp), lastf _ hl hr, List.zip_nil_left, a_gone hl, a_rows hl, hX, d0]
    refine ⟨σ, ?_, Frame.refl _ _, r, t, all, g, ⟨hl, hr, hm, hq, ht, hg, rows, nd', lts⟩, Nat.le_refl _, .inl rfl, .inl rfl⟩
    rw [hbody]
    simp only [f__law_forgot, execs, x_expr, x_assign, x_setattr, x_setidx, x_ite, x_ret, e_cNone, e_cBool, e_cInt, e_cStr, e_var, e_bin, e_cmp, e_bool, e_not, e_neg, e_fcall, e_new, e_mcall, e_bcall, e_bmeth, e_isinst, e_attr, e_idx, e_slice, e_list, e_tup, e_dict, evs, evBool, bindE_ok, bindM_ok, bindS_next, bindS_ret, fin_ret, fin_next, upd_at, rho_at, is_ii, is_ib, is_ss, is_tt, is_ll, is_bb, tV_bool, tV_int, bV_addI, bV_subI, bV_mulI, bV_fdivI, bV_modI, bV_powI, cV_lt, cV_le, cV_gt, cV_ge, cV_eqI, cV_neI, cV_eqS, cV_neS, bf_lenS, bf_lenL, bf_lenT, bf_min, bf_max, bf_abs, bf_r1, bf_r2, bf_r3, mkList, mkL, lim, Bf.long, Bm.long, Bool.not_true, Bool.not_false, if_true, if_false, reduceCtorEq, Option.map_some, Option.bind_some, Bool.false_and, Bool.true_and, Bool.and_true, Bool.and_false, Bool.or_false, Bool.or_true, Option.some.injEq, List.getElem?_cons_zero, List.getElem?_cons_succ, List.length_cons, List.length_nil, Nat.zero_add, Nat.reduceAdd, V.isNone, Bool.false_eq_true, and_self, ite_true, ite_false, decide_true, decide_false, Nat.succ_ne_zero, Nat.reduceEqDiff, Nat.reduceLeDiff, Bool.true_eq_false, ds_rows _ _ _ _ _ hm, ds_gone _ _ _ _ _ hm, len_ref hq, bV_modI _ _ hp1 hp2, hU, hX, if_neg hpos, put_gone _ _ _ _ _ _ hm, e0, m_log hl "forget" (by simp), List.zip_nil_left, hforget, whole_int]

theorem noted_good (n : Nat) (l m r q t : Nat) (all : List V) (g : Nat) (σ : St) (H : At σ l m r q t all g) (hL : all.length < 50000) (ss : List Str) (h6 : ss.length = 6) (c d : Int) :
    ∃ σ', run P (n + 3) false "" "_law_noted" [.ref l, .ref m, .lst (ss.map .str), .int c, .int d] [] σ = some (.ok (.bool true), σ') ∧ Good σ σ' l m r q t (all.length + 1) := by
  obtain ⟨row, hrow, e⟩ := noted_at n l m r q t all g σ H hL ss h6 c d
  obtain ⟨hl, hr, hm, hq, ht, hg, rows, nd, lt⟩ := H
  have nd' := nd
  simp only [List.nodup_cons, List.mem_cons, List.not_mem_nil, or_false, not_or, List.nodup_nil, not_false_eq_true, and_true] at nd
  obtain ⟨⟨lr, lm, lq, lt'⟩, ⟨rm, rq, rt⟩, ⟨mq, mt⟩, qt⟩ := nd
  refine ⟨_, e, ⟨Nat.le_refl _, fun j hj hA => ?_⟩, r, t, all ++ [row], g, ⟨?_, ?_, ?_, ?_, ?_, ?_, ?_, nd', lt⟩, by simp, .inl rfl, .inl rfl⟩
  · simp only [List.mem_cons, List.not_mem_nil, or_false, not_or] at hA
    rw [get_set, if_neg hA.2.1, get_set, if_neg hA.2.2.2.1]
  · rw [get_set, if_neg lr, get_set, if_neg lq]; exact hl
  · rw [get_set, if_pos rfl]
  · rw [get_set, if_neg (Ne.symm rm), get_set, if_neg mq]; exact hm
  · rw [get_set, if_neg (Ne.symm rq), get_set, if_pos rfl]
  · rw [get_set, if_neg (Ne.symm rt), get_set, if_neg (Ne.symm qt)]; exact ht
  · rw [List.length_append]; omega
  · intro v hv
    rcases List.mem_append.mp hv with hv | hv
    · exact rows v hv
    · rw [List.mem_singleton.mp hv]; exact hrow

theorem step_at (n : Nat) (l m r q t : Nat) (all : List V) (g : Nat) (σ : St) (H : At σ l m r q t all g) (hL : all.length < 40000) (ss : List Str) (h6 : ss.length = 6) (kd c : Int) :
    ∃ σ', run P (n + 4) false "" "_law_step" [.ref l, .ref m, .lst (ss.map .str), .int kd, .int c] [] σ = some (.ok (.bool true), σ') ∧ Good σ σ' l m r q t (all.length + 1) := by
  have H' := H
  obtain ⟨hl, hr, hm, hq, ht, hg, rows, nd, lt⟩ := H
  have nd' := nd
  simp only [List.nodup_cons, List.mem_cons, List.not_mem_nil, or_false, not_or, List.nodup_nil, not_false_eq_true, and_true] at nd
  obtain ⟨⟨lr, lm, lq, lt'⟩, ⟨rm, rq, rt⟩, ⟨mq, mt⟩, qt⟩ := nd
  have lts := lt
  simp only [List.mem_cons, List.not_mem_nil, or_false, forall_eq_or_imp, forall_eq] at lt
  obtain ⟨ll, lr', lm', lq', lt''⟩ := lt
  rw [run_call (fn := f__law_step) (vs := [.ref l, .ref m, .lst (ss.map .str), .int kd, .int c]) rfl rfl rfl]
  by_cases h0 : kd / 2 % 4 = 0
  · obtain ⟨σ', e, hF, r', t', all', g', hA, hB, h1, h2⟩ := forgot_at n l m r q t all g σ H' (Nat.lt_trans hL (by decide)) c
    refine ⟨σ', ?_, hF, r', t', all', g', hA, Nat.le_succ_of_le hB, h1, h2⟩
    simp only [f__law_step, execs, x_expr, x_assign, x_setattr, x_setidx, x_ite, x_ret, e_cNone, e_cBool, e_cInt, e_cStr, e_var, e_bin, e_cmp, e_bool, e_not, e_neg, e_fcall, e_new, e_mcall, e_bcall, e_bmeth, e_isinst, e_attr, e_idx, e_slice, e_list, e_tup, e_dict, evs, evBool, bindE_ok, bindM_ok, bindS_next, bindS_ret, fin_ret, fin_next, upd_at, rho_at, is_ii, is_ib, is_ss, is_tt, is_ll, is_bb, tV_bool, tV_int, bV_addI, bV_subI, bV_mulI, bV_fdivI, bV_modI, bV_powI, cV_lt, cV_le, cV_gt, cV_ge, cV_eqI, cV_neI, cV_eqS, cV_neS, bf_lenS, bf_lenL, bf_lenT, bf_min, bf_max, bf_abs, bf_r1, bf_r2, bf_r3, mkList, mkL, lim, Bf.long, Bm.long, Bool.not_true, Bool.not_false, if_true, if_false, reduceCtorEq, Option.map_some, Option.bind_some, Bool.false_and, Bool.true_and, Bool.and_true, Bool.and_false, Bool.or_false, Bool.or_true, Option.some.injEq, List.getElem?_cons_zero, List.getElem?_cons_succ, List.length_cons, List.length_nil, Nat.zero_add, Nat.reduceAdd, V.isNone, Bool.false_eq_true, and_self, ite_true, ite_false, decide_true, decide_false, Nat.succ_ne_zero, Nat.reduceEqDiff, Nat.reduceLeDiff, Bool.true_eq_false, Int.reduceLT, h0, e]
  · have d0 : decide (kd / 2 % 4 = 0) = false := by simpa using h0
    by_cases h1 : kd / 2 % 4 = 1
    · have d1 : decide (kd / 2 % 4 = 1) = true := by simpa using h1
      obtain ⟨p, e1⟩ := prefix_at (n + 2) false ss h6 (kd / 8) σ
      have hp1 : 0 < (all.length : Int) + 2 := Int.lt_of_lt_of_le (by decide) (Int.le_add_of_nonneg_left (Int.natCast_nonneg _))
      have hp2 : (all.length : Int) + 2 < 1152921504606846976 := by omega
      obtain ⟨x, hx, e2⟩ := drawn σ [.int (kd / 56 % 5), .int (kd / 56 % 97)] c 2 (by decide) (by decide) (by simp)
      have hk : ∃ k : Int, 0 ≤ k ∧ x = .int k := by
        simp only [List.mem_cons, List.not_mem_nil, or_false] at hx
        rcases hx with rfl | rfl
        · exact ⟨_, Int.emod_nonneg _ (by decide), rfl⟩
        · exact ⟨_, Int.emod_nonneg _ (by decide), rfl⟩
      obtain ⟨k, hk0, rfl⟩ := hk
      generalize hb : c % ((all.length : Int) + 2) = b
      have hrd : Rows (all.drop g) := fun v hv => rows v (List.mem_of_mem_drop hv)
      have e3 := wanted_at (n + 2) l r g p b k (all.drop g) σ hk0 hl hr hrd lr' ll (by rw [List.length_drop]; omega)
      generalize hFs : ((all.drop g).filter (sel b p)).take k.toNat = fs at e3
      have rf : Rows fs := fun v hv => hrd v (by rw [← hFs] at hv; exact (List.mem_filter.mp (List.mem_of_mem_take hv)).1)
      have keep1 : ∀ x ∈ [l, r, m, q, t], (σ.new (.list false fs)).get x = σ.get x := fun x hx => by rw [get_new, if_neg (Nat.ne_of_lt (lts x hx))]
      obtain ⟨o, e4⟩ := due_at (n + 2) m q t g p b k all (σ.new (.list false fs)) hk0 ((keep1 m (by simp)).trans hm) ((keep1 q (by simp)).trans hq) rows (Nat.lt_succ_of_lt lm') (Nat.lt_succ_of_lt lq') (by omega)
      rw [hFs] at e4
      have ga : ((σ.new (.list false fs)).new o).get σ.n = some (.list false fs) := by
        rw [get_new, n_new, if_neg (Nat.ne_of_lt (Nat.lt_succ_self _)), get_new, if_pos rfl]
      have e5 := changes_at n σ.n fs ((σ.new (.list false fs)).new o) ga rf
      refine ⟨((σ.new (.list false fs)).new o).set σ.n (.list false []), ?_, ⟨Nat.le_succ_of_le (Nat.le_succ _), fun j hj _ => ?_⟩, r, t, all, g, H'.mono (Nat.le_succ_of_le (Nat.le_succ _)) (fun x hx => ?_), by omega, .inl rfl, .inl rfl⟩
      · simp only [f__law_step, execs, x_expr, x_assign, x_setattr, x_setidx, x_ite, x_ret, e_cNone, e_cBool, e_cInt, e_cStr, e_var, e_bin, e_cmp, e_bool, e_not, e_neg, e_fcall, e_new, e_mcall, e_bcall, e_bmeth, e_isinst, e_attr, e_idx, e_slice, e_list, e_tup, e_dict, evs, evBool, bindE_ok, bindM_ok, bindS_next, bindS_ret, fin_ret, fin_next, upd_at, rho_at, is_ii, is_ib, is_ss, is_tt, is_ll, is_bb, tV_bool, tV_int, bV_addI, bV_subI, bV_mulI, bV_fdivI, bV_modI, bV_powI, cV_lt, cV_le, cV_gt, cV_ge, cV_eqI, cV_neI, cV_eqS, cV_neS, bf_lenS, bf_lenL, bf_lenT, bf_min, bf_max, bf_abs, bf_r1, bf_r2, bf_r3, mkList, mkL, lim, Bf.long, Bm.long, Bool.not_true, Bool.not_false, if_true, if_false, reduceCtorEq, Option.map_some, Option.bind_some, Bool.false_and, Bool.true_and, Bool.and_true, Bool.and_false, Bool.or_false, Bool.or_true, Option.some.injEq, List.getElem?_cons_zero, List.getElem?_cons_succ, List.length_cons, List.length_nil, Nat.zero_add, Nat.reduceAdd, V.isNone, Bool.false_eq_true, and_self, ite_true, ite_false, decide_true, decide_false, Nat.succ_ne_zero, Nat.reduceEqDiff, Nat.reduceLeDiff, Bool.true_eq_false, Int.reduceLT, d0, d1, e1, ds_rows _ _ _ _ _ hm, len_ref hq, bV_modI _ _ hp1 hp2, hb, e2, m_log hl "wanted" (by simp), List.zip_nil_left, e3, e4, e5]
      · rw [get_set, if_neg (Nat.ne_of_lt hj), get_new, n_new, if_neg (Nat.ne_of_lt (Nat.lt_succ_of_lt hj)), get_new, if_neg (Nat.ne_of_lt hj)]
      · have hj := lts x hx
        rw [get_set, if_neg (Nat.ne_of_lt hj), get_new, n_new, if_neg (Nat.ne_of_lt (Nat.lt_succ_of_lt hj)), get_new, if_neg (Nat.ne_of_lt hj)]
    · have d1 : decide (kd / 2 % 4 = 1) = false := by simpa using h1
      obtain ⟨σ', e, hG⟩ := noted_good n l m r q t all g σ H' (Nat.lt_trans hL (by decide)) ss h6 (kd / 8) (c.natAbs : Int)
      refine ⟨σ', ?_, hG⟩
      simp only [f__law_step, execs, x_expr, x_assign, x_setattr, x_setidx, x_ite, x_ret, e_cNone, e_cBool, e_cInt, e_cStr, e_var, e_bin, e_cmp, e_bool, e_not, e_neg, e_fcall, e_new, e_mcall, e_bcall, e_bmeth, e_isinst, e_attr, e_idx, e_slice, e_list, e_tup, e_dict, evs, evBool, bindE_ok, bindM_ok, bindS_next, bindS_ret, fin_ret, fin_next, upd_at, rho_at, is_ii, is_ib, is_ss, is_tt, is_ll, is_bb, tV_bool, tV_int, bV_addI, bV_subI, bV_mulI, bV_fdivI, bV_modI, bV_powI, cV_lt, cV_le, cV_gt, cV_ge, cV_eqI, cV_neI, cV_eqS, cV_neS, bf_lenS, bf_lenL, bf_lenT, bf_min, bf_max, bf_abs, bf_r1, bf_r2, bf_r3, mkList, mkL, lim, Bf.long, Bm.long, Bool.not_true, Bool.not_false, if_true, if_false, reduceCtorEq, Option.map_some, Option.bind_some, Bool.false_and, Bool.true_and, Bool.and_true, Bool.and_false, Bool.or_false, Bool.or_true, Option.some.injEq, List.getElem?_cons_zero, List.getElem?_cons_succ, List.length_cons, List.length_nil, Nat.zero_add, Nat.reduceAdd, V.isNone, Bool.false_eq_true, and_self, ite_true, ite_false, decide_true, decide_false, Nat.succ_ne_zero, Nat.reduceEqDiff, Nat.reduceLeDiff, Bool.true_eq_false, Int.reduceLT, d0, d1, e]
end Lw.L02
namespace Lw.L02
open PySem

noncomputable def Inv (σ : St) (l0 m0 l1 m1 : Nat) (B : Nat) : Prop := ∃ r0 q0 t0 all0 g0 r1 q1 t1 all1 g1, At σ l0 m0 r0 q0 t0 all0 g0 ∧ At σ l1 m1 r1 q1 t1 all1 g1 ∧
  (∀ x ∈ [l0, r0, m0, q0, t0], x ∉ [l1, r1, m1, q1, t1]) ∧ all0.length ≤ B ∧ all1.length ≤ B
theorem Inv.swap {σ : St} {l0 m0 l1 m1 B : Nat} (h : Inv σ l0 m0 l1 m1 B) : Inv σ l1 m1 l0 m0 B := by
  obtain ⟨r0, q0, t0, all0, g0, r1, q1, t1, all1, g1, a, b, d, e, f⟩ := h
  exact ⟨r1, q1, t1, all1, g1, r0, q0, t0, all0, g0, b, a, fun x hx hy => d x hy hx, f, e⟩

theorem Inv.moved {σ σ' : St} {l0 m0 l1 m1 r0 q0 t0 r1 q1 t1 B B' : Nat} {all0 all1 : List V} {g0 g1 : Nat} (a : At σ l0 m0 r0 q0 t0 all0 g0) (b : At σ l1 m1 r1 q1 t1 all1 g1)
    (d : ∀ x ∈ [l0, r0, m0, q0, t0], x ∉ [l1, r1, m1, q1, t1]) (f : all1.length ≤ B') (hG : Good σ σ' l0 m0 r0 q0 t0 B) (hB : B ≤ B') : Inv σ' l0 m0 l1 m1 B' := by
  obtain ⟨⟨hn, hF⟩, r', t', all', g', hA, hL, h1, h2⟩ := hG
  have b' : At σ' l1 m1 r1 q1 t1 all1 g1 := b.mono hn fun x hx => hF x (b.lt x hx) fun hy => d x hy hx
  refine ⟨r', q0, t', all', g', r1, q1, t1, all1, g1, hA, b', fun x hx hy => ?_, Nat.le_trans hL hB, f⟩
  have hlt := b.lt x hy
  simp only [List.mem_cons, List.not_mem_nil, or_false] at hx
  rcases hx with rfl | rfl | rfl | rfl | rfl
  · exact d _ (by simp) hy
  · rcases h1 with rfl | h1
    · exact d _ (by simp) hy
    · omega
  · exact d _ (by simp) hy
  · exact d _ (by simp) hy
  · rcases h2 with rfl | h2
    · exact d _ (by simp) hy
    · omega

theorem sel_all (rs : List V) (h : Rows rs) : rs.filter (sel 0 (Str.ofString "")) = rs := by
  rw [List.filter_eq_self]
  intro v hv
  obtain ⟨j, hj, t, w, k, x, rfl⟩ := h v hv
  rw [sel_row]
  have : decide ((0 : Int) < j) = true := by simp; omega
  rw [this]
  rfl

theorem look_at (n : Nat) (l m r q t : Nat) (all : List V) (g : Nat) (σ : St) (H : At σ l m r q t all g) (hL : all.length < 40000) :
    run P (n + 4) false "Log" "wanted" [.ref l, .str (Str.ofString ""), .int 0, .int 1000000] [] σ = some (.ok (.ref σ.n), σ.new (.list false (all.drop g))) ∧
    cmpV (σ.new (.list false (all.drop g))) .ne (.ref t) (.lst []) = some false ∧
    sliceV false (.ref q) (.int g) .none (σ.new (.list false (all.drop g))) = some (.ok (.lst (all.drop g)), σ.new (.list false (all.drop g))) ∧
    run P (n + 4) false "" "_law_changes" [.ref σ.n, .lst (all.drop g)] [] (σ.new (.list false (all.drop g))) = some (.ok (.bool true), σ.new (.list false [])) ∧
    setidxV (.ref m) (.str (Str.ofString "told")) (.ref σ.n) (σ.new (.list false [])) = some ((σ.new (.list false [])).set m (mineO q g σ.n)) ∧
    Good σ ((σ.new (.list false [])).set m (mineO q g σ.n)) l m r q t all.length := by
  have H' := H
  obtain ⟨hl, hr, hm, hq, ht, hg, rows, nd, lt⟩ := H
  have nd' := nd
  simp only [List.nodup_cons, List.mem_cons, List.not_mem_nil, or_false, not_or, List.nodup_nil, not_false_eq_true, and_true] at nd
  obtain ⟨⟨lr, lm, lq, lt'⟩, ⟨rm, rq, rt⟩, ⟨mq, mt⟩, qt⟩ := nd
  have lts := lt
  simp only [List.mem_cons, List.not_mem_nil, or_false, forall_eq_or_imp, forall_eq] at lt
  obtain ⟨ll, lr', lm', lq', lt''⟩ := lt
  have hrd : Rows (all.drop g) := fun v hv => rows v (List.mem_of_mem_drop hv)
  have keep : ∀ o x, x < σ.n → (σ.new o).get x = σ.get x := fun o x hx => by rw [get_new, if_neg (Nat.ne_of_lt hx)]
  have e1 := wanted_at (n + 3) l r g (Str.ofString "") 0 1000000 (all.drop g) σ (by decide) hl hr hrd lr' ll (by rw [List.length_drop]; omega)
  rw [sel_all _ hrd, List.take_of_length_le (by rw [List.length_drop]; show _ ≤ 1000000; omega)] at e1
  refine ⟨e1, ?_, ?_, ?_, ?_, ⟨?_, ?_⟩, r, σ.n, all, g, ⟨?_, ?_, ?_, ?_, ?_, hg, rows, ?_, ?_⟩, Nat.le_refl _, .inl rfl, .inr (Nat.le_refl _)⟩
  · have := eq_nil (σ := σ.new (.list false (all.drop g))) ((keep _ t lt'').trans ht) ⟨[], rfl, rfl⟩
    simp only [cmpV, this, Option.map_some]; rfl
  · have c1 := cl_int (g : Int) all.length (by omega)
    have ec : cutL all (min (g : Int).toNat all.length) all.length = all.drop g := by
      unfold cutL
      rw [List.take_length, Int.toNat_natCast, Nat.min_eq_left hg]
    have hq1 := (keep (.list false (all.drop g)) q lq').trans hq
    simp only [sliceV, seqOf, hq1, c1, ch_none, mkL, Bool.false_eq_true, if_false, ec]
  · have := changes_at (n + 1) σ.n (all.drop g) (σ.new (.list false (all.drop g))) (by rw [get_new, if_pos rfl]) hrd
    rw [new_set] at this; exact this
  · exact put_told _ m q t σ.n g ((keep _ m lm').trans hm)
  · exact Nat.le_succ σ.n
  · intro j hj hA
    simp only [List.mem_cons, List.not_mem_nil, or_false, not_or] at hA
    rw [get_set, if_neg hA.2.2.1, keep _ _ hj]
  · rw [get_set, if_neg lm, keep _ _ ll]; exact hl
  · rw [get_set, if_neg rm, keep _ _ lr']; exact hr
  · rw [get_set, if_pos rfl]
  · rw [get_set, if_neg (Ne.symm mq), keep _ _ lq']; exact hq
  · rw [get_set, if_neg (Nat.ne_of_gt lm'), get_new, if_pos rfl]
  · simp only [List.nodup_cons, List.mem_cons, List.not_mem_nil, or_false, not_or, List.nodup_nil, not_false_eq_true, and_true]
    exact ⟨⟨lr, lm, lq, Nat.ne_of_lt ll⟩, ⟨rm, rq, Nat.ne_of_lt lr'⟩, ⟨mq, Nat.ne_of_lt lm'⟩, Nat.ne_of_lt lq'⟩
  · show ∀ x ∈ [l, r, m, q, σ.n], x < σ.n + 1
    simp only [List.mem_cons, List.not_mem_nil, or_false, forall_eq_or_imp, forall_eq]
    exact ⟨Nat.lt_succ_of_lt ll, Nat.lt_succ_of_lt lr', Nat.lt_succ_of_lt lm', Nat.lt_succ_of_lt lq', Nat.lt_succ_self _⟩

theorem new_log (n : Nat) (ρ : Rho) (σ : St) : ev P (run P (n + 1)) false (.new "Log" [] [] []) ρ σ = some (.ok (.ref σ.n), ((σ.new (.inst "Log" [])).new (.list false [])).set σ.n (logO 0 (σ.n + 1))) := by
  have h1 : setattrV (.ref σ.n) "gone" (.int 0) (σ.new (.inst "Log" [])) = some ((σ.new (.inst "Log" [])).set σ.n (.inst "Log" [("gone", .int 0)])) := by
    simp only [setattrV, get_new, if_true]; rfl
  have h2 : setattrV (.ref σ.n) "rows" (.ref (σ.n + 1)) (((σ.new (.inst "Log" [])).set σ.n (.inst "Log" [("gone", .int 0)])).new (.list false [])) = some ((((σ.new (.inst "Log" [])).set σ.n (.inst "Log" [("gone", .int 0)])).new (.list false [])).set σ.n (logO 0 (σ.n + 1))) := by
    simp only [setattrV, get_new, n_set, n_new, get_set, if_true, if_neg (show σ.n ≠ σ.n + 1 by omega)]; rfl
  have hinit : run P (n + 1) false "Log" "__init__" [.ref σ.n] [] (σ.new (.inst "Log" [])) = some (.ok .none, (((σ.new (.inst "Log" [])).set σ.n (.inst "Log" [("gone", .int 0)])).new (.list false [])).set σ.n (logO 0 (σ.n + 1))) := by
    rw [run_call (fn := f_Log___init__) (vs := [.ref σ.n]) rfl rfl rfl]
    simp only [f_Log___init__, execs, x_expr, x_assign, x_setattr, x_setidx, x_ite, x_ret, e_cNone, e_cBool, e_cInt, e_cStr, e_var, e_bin, e_cmp, e_bool, e_not, e_neg, e_fcall, e_new, e_mcall, e_bcall, e_bmeth, e_isinst, e_attr, e_idx, e_slice, e_list, e_tup, e_dict, evs, evBool, bindE_ok, bindM_ok, bindS_next, bindS_ret, fin_ret, fin_next, upd_at, rho_at, is_ii, is_ib, is_ss, is_tt, is_ll, is_bb, tV_bool, tV_int, bV_addI, bV_subI, bV_mulI, bV_fdivI, bV_modI, bV_powI, cV_lt, cV_le, cV_gt, cV_ge, cV_eqI, cV_neI, cV_eqS, cV_neS, bf_lenS, bf_lenL, bf_lenT, bf_min, bf_max, bf_abs, bf_r1, bf_r2, bf_r3, mkList, mkL, lim, Bf.long, Bm.long, Bool.not_true, Bool.not_false, if_true, if_false, reduceCtorEq, Option.map_some, Option.bind_some, Bool.false_and, Bool.true_and, Bool.and_true, Bool.and_false, Bool.or_false, Bool.or_true, Option.some.injEq, List.getElem?_cons_zero, List.getElem?_cons_succ, List.length_cons, List.length_nil, Nat.zero_add, Nat.reduceAdd, V.isNone, Bool.false_eq_true, and_self, ite_true, ite_false, decide_true, decide_false, Nat.succ_ne_zero, Nat.reduceEqDiff, Nat.reduceLeDiff, Bool.true_eq_false, h1, n_set, n_new, Nat.zero_le, h2]
  have he : (((σ.new (.inst "Log" [])).set σ.n (.inst "Log" [("gone", .int 0)])).new (.list false [])).set σ.n (logO 0 (σ.n + 1)) = ((σ.new (.inst "Log" [])).new (.list false [])).set σ.n (logO 0 (σ.n + 1)) := by
    refine St.ext' rfl fun j => ?_
    show (if j = σ.n then _ else if j = σ.n + 1 then _ else if j = σ.n then _ else if j = σ.n then _ else σ.f j) = (if j = σ.n then _ else if j = σ.n + 1 then _ else if j = σ.n then _ else σ.f j)
    split
    · rfl
    · rfl
  rw [he] at hinit
  simp only [execs, x_expr, x_assign, x_setattr, x_setidx, x_ite, x_ret, e_cNone, e_cBool, e_cInt, e_cStr, e_var, e_bin, e_cmp, e_bool, e_not, e_neg, e_fcall, e_new, e_mcall, e_bcall, e_bmeth, e_isinst, e_attr, e_idx, e_slice, e_list, e_tup, e_dict, evs, evBool, bindE_ok, bindM_ok, bindS_next, bindS_ret, fin_ret, fin_next, upd_at, rho_at, is_ii, is_ib, is_ss, is_tt, is_ll, is_bb, tV_bool, tV_int, bV_addI, bV_subI, bV_mulI, bV_fdivI, bV_modI, bV_powI, cV_lt, cV_le, cV_gt, cV_ge, cV_eqI, cV_neI, cV_eqS, cV_neS, bf_lenS, bf_lenL, bf_lenT, bf_min, bf_max, bf_abs, bf_r1, bf_r2, bf_r3, mkList, mkL, lim, Bf.long, Bm.long, Bool.not_true, Bool.not_false, if_true, if_false, reduceCtorEq, Option.map_some, Option.bind_some, Bool.false_and, Bool.true_and, Bool.and_true, Bool.and_false, Bool.or_false, Bool.or_true, Option.some.injEq, List.getElem?_cons_zero, List.getElem?_cons_succ, List.length_cons, List.length_nil, Nat.zero_add, Nat.reduceAdd, V.isNone, Bool.false_eq_true, and_self, ite_true, ite_false, decide_true, decide_false, Nat.succ_ne_zero, Nat.reduceEqDiff, Nat.reduceLeDiff, Bool.true_eq_false, List.zip_nil_left, hinit]

theorem Inv.ends {σ : St} {l m lo mo B : Nat} (n : Nat) (h : Inv σ l m lo mo B) : run P (n + 2) false "" "_law_ends" [.ref l, .ref m] [] σ = some (.ok (.bool true), σ) := by
  obtain ⟨r0, q0, t0, all0, g0, r1, q1, t1, all1, g1, a, b, d, e, f⟩ := h
  exact ends_at n l m r0 q0 t0 all0 g0 σ a

noncomputable def sb1 : S := .assign 5 (.bin .mod (.idx (.var 0) (.var 4)) (.cInt 2))
noncomputable def sb2 : S := .ite (.not (.fcall "_law_step" [(.idx (.var 1) (.var 5)), (.idx (.var 2) (.var 5)), (.var 3), (.idx (.var 0) (.var 4)), (.idx (.var 0) (.bin .add (.var 4) (.cInt 1)))])) [.ret (.cBool false)] []
noncomputable def sb3 : S := .ite (.bool false [(.not (.fcall "_law_ends" [(.idx (.var 1) (.cInt 0)), (.idx (.var 2) (.cInt 0))])), (.not (.fcall "_law_ends" [(.idx (.var 1) (.cInt 1)), (.idx (.var 2) (.cInt 1))]))]) [.ret (.cBool false)] []
noncomputable def sb4 : S := .assign 6 (.idx (.idx (.var 2) (.var 5)) (.cStr "rows"))
noncomputable def sb5 : S := .assign 7 (.mcall (.idx (.var 1) (.var 5)) "wanted" [.cStr "", .cInt 0, (.bin .pow (.cInt 10) (.cInt 6))] [] [])
noncomputable def sb6 : S := .ite (.bool false [(.cmp .ne (.idx (.idx (.var 2) (.var 5)) (.cStr "told")) (.list false [])), (.not (.fcall "_law_changes" [(.var 7), (.slice false (.var 6) (.idx (.idx (.var 2) (.var 5)) (.cStr "gone")) .cNone)]))]) [.ret (.cBool false)] []
noncomputable def sb7 : S := .setidx (.idx (.var 2) (.var 5)) (.cStr "told") (.var 7)
noncomputable def body2 : List S := [sb1, sb2, sb3, sb4, sb5, sb6, sb7]

theorem body2_at (n : Nat) (l0 m0 l1 m1 l m lo mo : Nat) (hside : (l = l0 ∧ m = m0 ∧ lo = l1 ∧ mo = m1) ∨ (l = l1 ∧ m = m1 ∧ lo = l0 ∧ mo = m0)) (B : Nat) (hB : B < 39000) (τ : St) (h : Inv τ l m lo mo B)
    (ss : List Str) (h6 : ss.length = 6) (ρ : Rho) (ns : List Int) (k : Nat) (hk : k + 1 < ns.length) (hk2 : k < 1000) (wh : Int)
    (p0 : ρ 0 = some (.lst (ns.map .int))) (p1 : ρ 1 = some (.lst [.ref l0, .ref l1])) (p2 : ρ 2 = some (.lst [.ref m0, .ref m1])) (p3 : ρ 3 = some (.lst (ss.map .str))) (p4 : ρ 4 = some (.int k))
    (hw : ns[k]'(by omega) % 2 = wh) (hw1 : ∀ τ, idxV τ (.lst [.ref l0, .ref l1]) (.int wh) = some (.ref l)) (hw2 : ∀ τ, idxV τ (.lst [.ref m0, .ref m1]) (.int wh) = some (.ref m)) :
    ∃ ρ' τ', execs P (run P (n + 4)) false body2 ρ τ = some (.next, ρ', τ') ∧ Inv τ' l m lo mo (B + 1) ∧ ρ' 0 = ρ 0 ∧ ρ' 1 = ρ 1 ∧ ρ' 2 = ρ 2 ∧ ρ' 3 = ρ 3 := by
  obtain ⟨r0, q0, t0, all0, g0, r1, q1, t1, all1, g1, a, b, d, e, f⟩ := h
  have ik : ∀ τ, idxV τ (.lst (ns.map .int)) (.int k) = some (.int (ns[k]'(by omega))) := fun τ => by
    rw [iV_lst, List.length_map, place_nat k ns.length (by omega) (by omega)]
    simp only [Option.bind_some, List.getElem?_map, List.getElem?_eq_getElem (show k < ns.length by omega), Option.map_some]
  have ik1 : ∀ τ, idxV τ (.lst (ns.map .int)) (.int ((k : Int) + 1)) = some (.int (ns[k + 1]'hk)) := fun τ => by
    rw [show ((k : Int) + 1) = ((k + 1 : Nat) : Int) by omega, iV_lst, List.length_map, place_nat (k + 1) ns.length (by omega) (by omega)]
    simp only [Option.bind_some, List.getElem?_map, List.getElem?_eq_getElem hk, Option.map_some]
  obtain ⟨τ1, e1, hG⟩ := step_at n l m r0 q0 t0 all0 g0 τ a (Nat.lt_of_le_of_lt e (Nat.lt_trans hB (by decide))) ss h6 (ns[k]'(by omega)) (ns[k + 1]'hk)
  have I1 : Inv τ1 l m lo mo (B + 1) := Inv.moved a b d (Nat.le_succ_of_le f) hG (Nat.succ_le_succ e)
  have en0 : run P (n + 4) false "" "_law_ends" [.ref l0, .ref m0] [] τ1 = some (.ok (.bool true), τ1) := by
    rcases hside with ⟨rfl, rfl, rfl, rfl⟩ | ⟨rfl, rfl, rfl, rfl⟩
    · exact I1.ends (n + 2)
    · exact I1.swap.ends (n + 2)
  have en1 : run P (n + 4) false "" "_law_ends" [.ref l1, .ref m1] [] τ1 = some (.ok (.bool true), τ1) := by
    rcases hside with ⟨rfl, rfl, rfl, rfl⟩ | ⟨rfl, rfl, rfl, rfl⟩
    · exact I1.swap.ends (n + 2)
    · exact I1.ends (n + 2)
  obtain ⟨r2, q2, t2, all2, g2, r3, q3, t3, all3, g3, a2, b2, d2, f2, f3⟩ := I1
  obtain ⟨w1, w2, w3, w4, w5, w6⟩ := look_at n l m r2 q2 t2 all2 g2 τ1 a2 (Nat.lt_of_le_of_lt f2 (Nat.lt_of_le_of_lt (Nat.succ_le_of_lt hB) (by decide)))
  have i00 : ∀ τ, idxV τ (.lst [.ref l0, .ref l1]) (.int 0) = some (.ref l0) := fun _ => rfl
  have i01 : ∀ τ, idxV τ (.lst [.ref l0, .ref l1]) (.int 1) = some (.ref l1) := fun _ => rfl
  have i10 : ∀ τ, idxV τ (.lst [.ref m0, .ref m1]) (.int 0) = some (.ref m0) := fun _ => rfl
  have i11 : ∀ τ, idxV τ (.lst [.ref m0, .ref m1]) (.int 1) = some (.ref m1) := fun _ => rfl
  have hm2 : (τ1.new (.list false (all2.drop g2))).get m = some (mineO q2 g2 t2) := by rw [get_new, if_neg (by have := a2.lt m (by simp); omega)]; exact a2.hm
  have hpow : (10 : Int) ^ (6 : Int).toNat = 1000000 := by decide
  refine ⟨upd (upd (upd ρ 5 (.int wh)) 6 (.ref q2)) 7 (.ref τ1.n), _, ?_, Inv.moved (B' := B + 1) a2 b2 d2 f3 w6 f2, rfl, rfl, rfl, rfl⟩
  have y1 : exec P (run P (n + 4)) false sb1 ρ τ = some (.next, upd ρ 5 (.int wh), τ) := by
    simp only [sb1, execs, x_expr, x_assign, x_setattr, x_setidx, x_ite, x_ret, e_cNone, e_cBool, e_cInt, e_cStr, e_var, e_bin, e_cmp, e_bool, e_not, e_neg, e_fcall, e_new, e_mcall, e_bcall, e_bmeth, e_isinst, e_attr, e_idx, e_slice, e_list, e_tup, e_dict, evs, evBool, bindE_ok, bindM_ok, bindS_next, bindS_ret, fin_ret, fin_next, upd_at, rho_at, is_ii, is_ib, is_ss, is_tt, is_ll, is_bb, tV_bool, tV_int, bV_addI, bV_subI, bV_mulI, bV_fdivI, bV_modI, bV_powI, cV_lt, cV_le, cV_gt, cV_ge, cV_eqI, cV_neI, cV_eqS, cV_neS, bf_lenS, bf_lenL, bf_lenT, bf_min, bf_max, bf_abs, bf_r1, bf_r2, bf_r3, mkList, mkL, lim, Bf.long, Bm.long, Bool.not_true, Bool.not_false, if_true, if_false, reduceCtorEq, Option.map_some, Option.bind_some, Bool.false_and, Bool.true_and, Bool.and_true, Bool.and_false, Bool.or_false, Bool.or_true, Option.some.injEq, List.getElem?_cons_zero, List.getElem?_cons_succ, List.length_cons, List.length_nil, Nat.zero_add, Nat.reduceAdd, V.isNone, Bool.false_eq_true, and_self, ite_true, ite_false, decide_true, decide_false, Nat.succ_ne_zero, Nat.reduceEqDiff, Nat.reduceLeDiff, Bool.true_eq_false, p0, p4, ik, Int.reduceLT, hw]
  have y2 : exec P (run P (n + 4)) false sb2 (upd ρ 5 (.int wh)) τ = some (.next, upd ρ 5 (.int wh), τ1) := by
    simp only [sb2, execs, x_expr, x_assign, x_setattr, x_setidx, x_ite, x_ret, e_cNone, e_cBool, e_cInt, e_cStr, e_var, e_bin, e_cmp, e_bool, e_not, e_neg, e_fcall, e_new, e_mcall, e_bcall, e_bmeth, e_isinst, e_attr, e_idx, e_slice, e_list, e_tup, e_dict, evs, evBool, bindE_ok, bindM_ok, bindS_next, bindS_ret, fin_ret, fin_next, upd_at, rho_at, is_ii, is_ib, is_ss, is_tt, is_ll, is_bb, tV_bool, tV_int, bV_addI, bV_subI, bV_mulI, bV_fdivI, bV_modI, bV_powI, cV_lt, cV_le, cV_gt, cV_ge, cV_eqI, cV_neI, cV_eqS, cV_neS, bf_lenS, bf_lenL, bf_lenT, bf_min, bf_max, bf_abs, bf_r1, bf_r2, bf_r3, mkList, mkL, lim, Bf.long, Bm.long, Bool.not_true, Bool.not_false, if_true, if_false, reduceCtorEq, Option.map_some, Option.bind_some, Bool.false_and, Bool.true_and, Bool.and_true, Bool.and_false, Bool.or_false, Bool.or_true, Option.some.injEq, List.getElem?_cons_zero, List.getElem?_cons_succ, List.length_cons, List.length_nil, Nat.zero_add, Nat.reduceAdd, V.isNone, Bool.false_eq_true, and_self, ite_true, ite_false, decide_true, decide_false, Nat.succ_ne_zero, Nat.reduceEqDiff, Nat.reduceLeDiff, Bool.true_eq_false, p0, p1, p2, p3, p4, ik, ik1, hw1, hw2, e1]
  have y3 : exec P (run P (n + 4)) false sb3 (upd ρ 5 (.int wh)) τ1 = some (.next, upd ρ 5 (.int wh), τ1) := by
    simp only [sb3, execs, x_expr, x_assign, x_setattr, x_setidx, x_ite, x_ret, e_cNone, e_cBool, e_cInt, e_cStr, e_var, e_bin, e_cmp, e_bool, e_not, e_neg, e_fcall, e_new, e_mcall, e_bcall, e_bmeth, e_isinst, e_attr, e_idx, e_slice, e_list, e_tup, e_dict, evs, evBool, bindE_ok, bindM_ok, bindS_next, bindS_ret, fin_ret, fin_next, upd_at, rho_at, is_ii, is_ib, is_ss, is_tt, is_ll, is_bb, tV_bool, tV_int, bV_addI, bV_subI, bV_mulI, bV_fdivI, bV_modI, bV_powI, cV_lt, cV_le, cV_gt, cV_ge, cV_eqI, cV_neI, cV_eqS, cV_neS, bf_lenS, bf_lenL, bf_lenT, bf_min, bf_max, bf_abs, bf_r1, bf_r2, bf_r3, mkList, mkL, lim, Bf.long, Bm.long, Bool.not_true, Bool.not_false, if_true, if_false, reduceCtorEq, Option.map_some, Option.bind_some, Bool.false_and, Bool.true_and, Bool.and_true, Bool.and_false, Bool.or_false, Bool.or_true, Option.some.injEq, List.getElem?_cons_zero, List.getElem?_cons_succ, List.length_cons, List.length_nil, Nat.zero_add, Nat.reduceAdd, V.isNone, Bool.false_eq_true, and_self, ite_true, ite_false, decide_true, decide_false, Nat.succ_ne_zero, Nat.reduceEqDiff, Nat.reduceLeDiff, Bool.true_eq_false, p1, p2, i00, i01, i10, i11, en0, en1]
  have y4 : exec P (run P (n + 4)) false sb4 (upd ρ 5 (.int wh)) τ1 = some (.next, upd (upd ρ 5 (.int wh)) 6 (.ref q2), τ1) := by
    simp only [sb4, execs, x_expr, x_assign, x_setattr, x_setidx, x_ite, x_ret, e_cNone, e_cBool, e_cInt, e_cStr, e_var, e_bin, e_cmp, e_bool, e_not, e_neg, e_fcall, e_new, e_mcall, e_bcall, e_bmeth, e_isinst, e_attr, e_idx, e_slice, e_list, e_tup, e_dict, evs, evBool, bindE_ok, bindM_ok, bindS_next, bindS_ret, fin_ret, fin_next, upd_at, rho_at, is_ii, is_ib, is_ss, is_tt, is_ll, is_bb, tV_bool, tV_int, bV_addI, bV_subI, bV_mulI, bV_fdivI, bV_modI, bV_powI, cV_lt, cV_le, cV_gt, cV_ge, cV_eqI, cV_neI, cV_eqS, cV_neS, bf_lenS, bf_lenL, bf_lenT, bf_min, bf_max, bf_abs, bf_r1, bf_r2, bf_r3, mkList, mkL, lim, Bf.long, Bm.long, Bool.not_true, Bool.not_false, if_true, if_false, reduceCtorEq, Option.map_some, Option.bind_some, Bool.false_and, Bool.true_and, Bool.and_true, Bool.and_false, Bool.or_false, Bool.or_true, Option.some.injEq, List.getElem?_cons_zero, List.getElem?_cons_succ, List.length_cons, List.length_nil, Nat.zero_add, Nat.reduceAdd, V.isNone, Bool.false_eq_true, and_self, ite_true, ite_false, decide_true, decide_false, Nat.succ_ne_zero, Nat.reduceEqDiff, Nat.reduceLeDiff, Bool.true_eq_false, p2, hw2, ds_rows _ _ _ _ _ a2.hm]
  have y5 : exec P (run P (n + 4)) false sb5 (upd (upd ρ 5 (.int wh)) 6 (.ref q2)) τ1 = some (.next, upd (upd (upd ρ 5 (.int wh)) 6 (.ref q2)) 7 (.ref τ1.n), τ1.new (.list false (all2.drop g2))) := by
    simp only [sb5, execs, x_expr, x_assign, x_setattr, x_setidx, x_ite, x_ret, e_cNone, e_cBool, e_cInt, e_cStr, e_var, e_bin, e_cmp, e_bool, e_not, e_neg, e_fcall, e_new, e_mcall, e_bcall, e_bmeth, e_isinst, e_attr, e_idx, e_slice, e_list, e_tup, e_dict, evs, evBool, bindE_ok, bindM_ok, bindS_next, bindS_ret, fin_ret, fin_next, upd_at, rho_at, is_ii, is_ib, is_ss, is_tt, is_ll, is_bb, tV_bool, tV_int, bV_addI, bV_subI, bV_mulI, bV_fdivI, bV_modI, bV_powI, cV_lt, cV_le, cV_gt, cV_ge, cV_eqI, cV_neI, cV_eqS, cV_neS, bf_lenS, bf_lenL, bf_lenT, bf_min, bf_max, bf_abs, bf_r1, bf_r2, bf_r3, mkList, mkL, lim, Bf.long, Bm.long, Bool.not_true, Bool.not_false, if_true, if_false, reduceCtorEq, Option.map_some, Option.bind_some, Bool.false_and, Bool.true_and, Bool.and_true, Bool.and_false, Bool.or_false, Bool.or_true, Option.some.injEq, List.getElem?_cons_zero, List.getElem?_cons_succ, List.length_cons, List.length_nil, Nat.zero_add, Nat.reduceAdd, V.isNone, Bool.false_eq_true, and_self, ite_true, ite_false, decide_true, decide_false, Nat.succ_ne_zero, Nat.reduceEqDiff, Nat.reduceLeDiff, Bool.true_eq_false, p1, hw1, Int.reduceLE, m_log a2.hl "wanted" (by simp), List.zip_nil_left, hpow, w1]
  have y6 : exec P (run P (n + 4)) false sb6 (upd (upd (upd ρ 5 (.int wh)) 6 (.ref q2)) 7 (.ref τ1.n)) (τ1.new (.list false (all2.drop g2))) = some (.next, upd (upd (upd ρ 5 (.int wh)) 6 (.ref q2)) 7 (.ref τ1.n), τ1.new (.list false [])) := by
    simp only [sb6, execs, x_expr, x_assign, x_setattr, x_setidx, x_ite, x_ret, e_cNone, e_cBool, e_cInt, e_cStr, e_var, e_bin, e_cmp, e_bool, e_not, e_neg, e_fcall, e_new, e_mcall, e_bcall, e_bmeth, e_isinst, e_attr, e_idx, e_slice, e_list, e_tup, e_dict, evs, evBool, bindE_ok, bindM_ok, bindS_next, bindS_ret, fin_ret, fin_next, upd_at, rho_at, is_ii, is_ib, is_ss, is_tt, is_ll, is_bb, tV_bool, tV_int, bV_addI, bV_subI, bV_mulI, bV_fdivI, bV_modI, bV_powI, cV_lt, cV_le, cV_gt, cV_ge, cV_eqI, cV_neI, cV_eqS, cV_neS, bf_lenS, bf_lenL, bf_lenT, bf_min, bf_max, bf_abs, bf_r1, bf_r2, bf_r3, mkList, mkL, lim, Bf.long, Bm.long, Bool.not_true, Bool.not_false, if_true, if_false, reduceCtorEq, Option.map_some, Option.bind_some, Bool.false_and, Bool.true_and, Bool.and_true, Bool.and_false, Bool.or_false, Bool.or_true, Option.some.injEq, List.getElem?_cons_zero, List.getElem?_cons_succ, List.length_cons, List.length_nil, Nat.zero_add, Nat.reduceAdd, V.isNone, Bool.false_eq_true, and_self, ite_true, ite_false, decide_true, decide_false, Nat.succ_ne_zero, Nat.reduceEqDiff, Nat.reduceLeDiff, Bool.true_eq_false, p2, hw2, ds_told _ _ _ _ _ hm2, ds_gone _ _ _ _ _ hm2, w2, w3, w4]
  have y7 : exec P (run P (n + 4)) false sb7 (upd (upd (upd ρ 5 (.int wh)) 6 (.ref q2)) 7 (.ref τ1.n)) (τ1.new (.list false [])) = some (.next, upd (upd (upd ρ 5 (.int wh)) 6 (.ref q2)) 7 (.ref τ1.n), (τ1.new (.list false [])).set m (mineO q2 g2 τ1.n)) := by
    simp only [sb7, execs, x_expr, x_assign, x_setattr, x_setidx, x_ite, x_ret, e_cNone, e_cBool, e_cInt, e_cStr, e_var, e_bin, e_cmp, e_bool, e_not, e_neg, e_fcall, e_new, e_mcall, e_bcall, e_bmeth, e_isinst, e_attr, e_idx, e_slice, e_list, e_tup, e_dict, evs, evBool, bindE_ok, bindM_ok, bindS_next, bindS_ret, fin_ret, fin_next, upd_at, rho_at, is_ii, is_ib, is_ss, is_tt, is_ll, is_bb, tV_bool, tV_int, bV_addI, bV_subI, bV_mulI, bV_fdivI, bV_modI, bV_powI, cV_lt, cV_le, cV_gt, cV_ge, cV_eqI, cV_neI, cV_eqS, cV_neS, bf_lenS, bf_lenL, bf_lenT, bf_min, bf_max, bf_abs, bf_r1, bf_r2, bf_r3, mkList, mkL, lim, Bf.long, Bm.long, Bool.not_true, Bool.not_false, if_true, if_false, reduceCtorEq, Option.map_some, Option.bind_some, Bool.false_and, Bool.true_and, Bool.and_true, Bool.and_false, Bool.or_false, Bool.or_true, Option.some.injEq, List.getElem?_cons_zero, List.getElem?_cons_succ, List.length_cons, List.length_nil, Nat.zero_add, Nat.reduceAdd, V.isNone, Bool.false_eq_true, and_self, ite_true, ite_false, decide_true, decide_false, Nat.succ_ne_zero, Nat.reduceEqDiff, Nat.reduceLeDiff, Bool.true_eq_false, p2, hw2, w5]
  simp only [body2, execs, y1, y2, y3, y4, y5, y6, y7, bindS_next]

theorem new_mine (n : Nat) (ρ : Rho) (σ : St) : ev P (run P n) false (.dict ["rows", "gone", "told"] [(.list true []), .cInt 0, (.list true [])]) ρ σ = some (.ok (.ref (σ.n + 2)), ((σ.new (.list false [])).new (.list false [])).new (mineO σ.n 0 (σ.n + 1))) := by
  simp only [execs, x_expr, x_assign, x_setattr, x_setidx, x_ite, x_ret, e_cNone, e_cBool, e_cInt, e_cStr, e_var, e_bin, e_cmp, e_bool, e_not, e_neg, e_fcall, e_new, e_mcall, e_bcall, e_bmeth, e_isinst, e_attr, e_idx, e_slice, e_list, e_tup, e_dict, evs, evBool, bindE_ok, bindM_ok, bindS_next, bindS_ret, fin_ret, fin_next, upd_at, rho_at, is_ii, is_ib, is_ss, is_tt, is_ll, is_bb, tV_bool, tV_int, bV_addI, bV_subI, bV_mulI, bV_fdivI, bV_modI, bV_powI, cV_lt, cV_le, cV_gt, cV_ge, cV_eqI, cV_neI, cV_eqS, cV_neS, bf_lenS, bf_lenL, bf_lenT, bf_min, bf_max, bf_abs, bf_r1, bf_r2, bf_r3, mkList, mkL, lim, Bf.long, Bm.long, Bool.not_true, Bool.not_false, if_true, if_false, reduceCtorEq, Option.map_some, Option.bind_some, Bool.false_and, Bool.true_and, Bool.and_true, Bool.and_false, Bool.or_false, Bool.or_true, Option.some.injEq, List.getElem?_cons_zero, List.getElem?_cons_succ, List.length_cons, List.length_nil, Nat.zero_add, Nat.reduceAdd, V.isNone, Bool.false_eq_true, and_self, ite_true, ite_false, decide_true, decide_false, Nat.succ_ne_zero, Nat.reduceEqDiff, Nat.reduceLeDiff, Bool.true_eq_false, Nat.zero_le, n_new]
  rfl

noncomputable def start (σ : St) : St :=
  let a := ((σ.new (.inst "Log" [])).new (.list false [])).set σ.n (logO 0 (σ.n + 1))
  let b := ((a.new (.inst "Log" [])).new (.list false [])).set a.n (logO 0 (a.n + 1))
  let c := ((b.new (.list false [])).new (.list false [])).new (mineO b.n 0 (b.n + 1))
  ((c.new (.list false [])).new (.list false [])).new (mineO c.n 0 (c.n + 1))

theorem start_inv (σ : St) : Inv (start σ) σ.n (σ.n + 6) (σ.n + 2) (σ.n + 9) 0 := by
  have ne : ∀ a b : Nat, a ≠ b → (σ.n + a = σ.n + b) = False := fun a b h => by simp; omega
  refine ⟨σ.n + 1, σ.n + 4, σ.n + 5, [], 0, σ.n + 3, σ.n + 7, σ.n + 8, [], 0, ⟨?_, ?_, ?_, ?_, ?_, Nat.le_refl _, by simp [Rows], ?_, ?_⟩, ⟨?_, ?_, ?_, ?_, ?_, Nat.le_refl _, by simp [Rows], ?_, ?_⟩, ?_, Nat.le_refl _, Nat.le_refl _⟩
  all_goals first
    | (simp [start, get_new, get_set, n_new, n_set, Nat.add_assoc]; done)
    | (simp [start, get_new, get_set, n_new, n_set, Nat.add_assoc] <;> omega)
    | (simp only [start, get_new, get_set, n_new, n_set, Nat.add_assoc]; simp)

theorem side_l (a b : Nat) (τ : St) (wh : Int) (h : wh = 0 ∨ wh = 1) : idxV τ (.lst [.ref a, .ref b]) (.int wh) = some (.ref (if wh = 0 then a else b)) := by
  rcases h with rfl | rfl <;> rfl

theorem law_at (n : Nat) (ns : List Int) (hns : ns.length ≤ 63) (σ : St) : ∃ σ', run P (n + 5) false "" "law" [.lst (ns.map .int)] [] σ = some (.ok (.bool true), σ') := by
  rw [run_call (fn := f_law) (vs := [.lst (ns.map .int)]) rfl rfl rfl]
  have hI := start_inv σ
  generalize hS : start σ = S0 at hI
  obtain ⟨c0, ec0⟩ := cell_at (n + 3) false ns 0 S0 (by decide)
  obtain ⟨c1, ec1⟩ := cell_at (n + 3) false ns 1 S0 (by decide)
  obtain ⟨ss, h6, ep⟩ := pool_at (n + 1) c0 c1 S0
  have x1 : exec P (run P (n + 4)) false (.assign 1 (.list false [(.new "Log" [] [] []), (.new "Log" [] [] [])])) (rhoOf [.lst (ns.map .int)]) σ = some (.next, upd (rhoOf [.lst (ns.map .int)]) 1 (.lst [.ref σ.n, .ref (σ.n + 2)]), (((((σ.new (.inst "Log" [])).new (.list false [])).set σ.n (logO 0 (σ.n + 1))).new (.inst "Log" [])).new (.list false [])).set (σ.n + 2) (logO 0 (σ.n + 2 + 1))) := by
    simp only [x_assign, e_list, evs, new_log, bindM_ok, bindE_ok, mkList, mkL, List.length_cons, List.length_nil, lim, n_set, n_new, Bool.false_eq_true, if_false]
    rfl
  have x2 : ∀ ρ, exec P (run P (n + 4)) false (.assign 2 (.list false [(.dict ["rows", "gone", "told"] [(.list true []), .cInt 0, (.list true [])]), (.dict ["rows", "gone", "told"] [(.list true []), .cInt 0, (.list true [])])])) ρ ((((((σ.new (.inst "Log" [])).new (.list false [])).set σ.n (logO 0 (σ.n + 1))).new (.inst "Log" [])).new (.list false [])).set (σ.n + 2) (logO 0 (σ.n + 2 + 1))) = some (.next, upd ρ 2 (.lst [.ref (σ.n + 6), .ref (σ.n + 9)]), S0) := fun ρ => by
    simp only [x_assign, e_list, evs, new_mine, bindM_ok, bindE_ok, mkList, mkL, List.length_cons, List.length_nil, lim, n_set, n_new, Bool.false_eq_true, if_false]
    rw [← hS]; rfl
  let R : Rho := upd (upd (upd (rhoOf [.lst (ns.map .int)]) 1 (.lst [.ref σ.n, .ref (σ.n + 2)])) 2 (.lst [.ref (σ.n + 6), .ref (σ.n + 9)])) 3 (.lst (ss.map .str))
  have x3 : exec P (run P (n + 4)) false (.assign 3 (.fcall "_law_pool" [(.fcall "_law_cell_at" [(.var 0), .cInt 0]), (.fcall "_law_cell_at" [(.var 0), .cInt 1])])) (upd (upd (rhoOf [.lst (ns.map .int)]) 1 (.lst [.ref σ.n, .ref (σ.n + 2)])) 2 (.lst [.ref (σ.n + 6), .ref (σ.n + 9)])) S0 = some (.next, R, S0) := by
    have ec0' : run P (n + 4) false "" "_law_cell_at" [.lst (ns.map .int), .int 0] [] S0 = some (.ok (.int c0), S0) := ec0
    have ec1' : run P (n + 4) false "" "_law_cell_at" [.lst (ns.map .int), .int 1] [] S0 = some (.ok (.int c1), S0) := ec1
    simp only [execs, x_expr, x_assign, x_setattr, x_setidx, x_ite, x_ret, e_cNone, e_cBool, e_cInt, e_cStr, e_var, e_bin, e_cmp, e_bool, e_not, e_neg, e_fcall, e_new, e_mcall, e_bcall, e_bmeth, e_isinst, e_attr, e_idx, e_slice, e_list, e_tup, e_dict, evs, evBool, bindE_ok, bindM_ok, bindS_next, bindS_ret, fin_ret, fin_next, upd_at, rho_at, is_ii, is_ib, is_ss, is_tt, is_ll, is_bb, tV_bool, tV_int, bV_addI, bV_subI, bV_mulI, bV_fdivI, bV_modI, bV_powI, cV_lt, cV_le, cV_gt, cV_ge, cV_eqI, cV_neI, cV_eqS, cV_neS, bf_lenS, bf_lenL, bf_lenT, bf_min, bf_max, bf_abs, bf_r1, bf_r2, bf_r3, mkList, mkL, lim, Bf.long, Bm.long, Bool.not_true, Bool.not_false, if_true, if_false, reduceCtorEq, Option.map_some, Option.bind_some, Bool.false_and, Bool.true_and, Bool.and_true, Bool.and_false, Bool.or_false, Bool.or_true, Option.some.injEq, List.getElem?_cons_zero, List.getElem?_cons_succ, List.length_cons, List.length_nil, Nat.zero_add, Nat.reduceAdd, V.isNone, Bool.false_eq_true, and_self, ite_true, ite_false, decide_true, decide_false, Nat.succ_ne_zero, Nat.reduceEqDiff, Nat.reduceLeDiff, Bool.true_eq_false, ec0', ec1', ep]
    rfl
  have x4 : ∃ R' S1, exec P (run P (n + 4)) false (.ite (.cmp .eq (.bin .mod (.fcall "_law_cell_at" [(.var 0), .cInt 0]) (.cInt 6)) (.cInt 0)) [.for1 4 (.bcall .range [.cInt 240]) [.ite (.not (.fcall "_law_noted" [(.idx (.var 1) (.bin .mod (.var 4) (.cInt 2))), (.idx (.var 2) (.bin .mod (.var 4) (.cInt 2))), (.var 3), (.bin .add (.bin .mul (.var 4) (.cInt 5)) (.cInt 1)), (.var 4)])) [.ret (.cBool false)] []]] []) R S0 = some (.next, R', S1) ∧ Inv S1 σ.n (σ.n + 6) (σ.n + 2) (σ.n + 9) 240 ∧ R' 0 = R 0 ∧ R' 1 = R 1 ∧ R' 2 = R 2 ∧ R' 3 = R 3 := by
    have ec0' : run P (n + 4) false "" "_law_cell_at" [.lst (ns.map .int), .int 0] [] S0 = some (.ok (.int c0), S0) := ec0
    have q0 : R 0 = some (.lst (ns.map .int)) := rfl
    by_cases hc : c0 % 6 = 0
    · obtain ⟨ρ', τ, ⟨hJ, g0, g1, g2, g3⟩, hloop⟩ := loop_ind (f := fun v ρ τ => execs P (run P (n + 4)) false [.ite (.not (.fcall "_law_noted" [(.idx (.var 1) (.bin .mod (.var 4) (.cInt 2))), (.idx (.var 2) (.bin .mod (.var 4) (.cInt 2))), (.var 3), (.bin .add (.bin .mul (.var 4) (.cInt 5)) (.cInt 1)), (.var 4)])) [.ret (.cBool false)] []] (upd ρ 4 v) τ)
        (I := fun i ρ τ => Inv τ σ.n (σ.n + 6) (σ.n + 2) (σ.n + 9) i ∧ ρ 0 = R 0 ∧ ρ 1 = R 1 ∧ ρ 2 = R 2 ∧ ρ 3 = R 3) (rngList 0 240 1) 0 (fun i v hv ρ τ ⟨hJ, g0, g1, g2, g3⟩ => by
          rw [Nat.zero_add] at hJ ⊢
          have hi : i < 240 := by
            have := (List.getElem?_eq_some_iff.mp hv).1
            unfold rngList at this; simpa using this
          have hv' : v = .int i := by
            rw [(rng_get hv).2]; congr 1; omega
          subst hv'
          have p1 : ρ 1 = some (.lst [.ref σ.n, .ref (σ.n + 2)]) := g1
          have p2 : ρ 2 = some (.lst [.ref (σ.n + 6), .ref (σ.n + 9)]) := g2
          have p3 : ρ 3 = some (.lst (ss.map .str)) := g3
          have hw : ((i : Int) % 2 = 0) ∨ ((i : Int) % 2 = 1) := by omega
          have hm1 : (i : Int).natAbs < 1152921504606846976 := by omega
          have hm2 : (5 : Int).natAbs < 1152921504606846976 := by decide
          have fin2 : ∀ τ', run P (n + 4) false "" "_law_noted" [.ref (if (i : Int) % 2 = 0 then σ.n else σ.n + 2), .ref (if (i : Int) % 2 = 0 then σ.n + 6 else σ.n + 9), .lst (ss.map .str), .int ((i : Int) * 5 + 1), .int i] [] τ = some (.ok (.bool true), τ') → Inv τ' σ.n (σ.n + 6) (σ.n + 2) (σ.n + 9) (i + 1) →
              ∃ ρ' σ', (Inv σ' σ.n (σ.n + 6) (σ.n + 2) (σ.n + 9) (i + 1) ∧ ρ' 0 = R 0 ∧ ρ' 1 = R 1 ∧ ρ' 2 = R 2 ∧ ρ' 3 = R 3) ∧ execs P (run P (n + 4)) false [.ite (.not (.fcall "_law_noted" [(.idx (.var 1) (.bin .mod (.var 4) (.cInt 2))), (.idx (.var 2) (.bin .mod (.var 4) (.cInt 2))), (.var 3), (.bin .add (.bin .mul (.var 4) (.cInt 5)) (.cInt 1)), (.var 4)])) [.ret (.cBool false)] []] (upd ρ 4 (.int i)) τ = some (.next, ρ', σ') := fun τ' hrun hInv => by
            refine ⟨upd ρ 4 (.int i), τ', ⟨hInv, g0, g1, g2, g3⟩, ?_⟩
            simp only [execs, x_expr, x_assign, x_setattr, x_setidx, x_ite, x_ret, e_cNone, e_cBool, e_cInt, e_cStr, e_var, e_bin, e_cmp, e_bool, e_not, e_neg, e_fcall, e_new, e_mcall, e_bcall, e_bmeth, e_isinst, e_attr, e_idx, e_slice, e_list, e_tup, e_dict, evs, evBool, bindE_ok, bindM_ok, bindS_next, bindS_ret, fin_ret, fin_next, upd_at, rho_at, is_ii, is_ib, is_ss, is_tt, is_ll, is_bb, tV_bool, tV_int, bV_addI, bV_subI, bV_mulI, bV_fdivI, bV_modI, bV_powI, cV_lt, cV_le, cV_gt, cV_ge, cV_eqI, cV_neI, cV_eqS, cV_neS, bf_lenS, bf_lenL, bf_lenT, bf_min, bf_max, bf_abs, bf_r1, bf_r2, bf_r3, mkList, mkL, lim, Bf.long, Bm.long, Bool.not_true, Bool.not_false, if_true, if_false, reduceCtorEq, Option.map_some, Option.bind_some, Bool.false_and, Bool.true_and, Bool.and_true, Bool.and_false, Bool.or_false, Bool.or_true, Option.some.injEq, List.getElem?_cons_zero, List.getElem?_cons_succ, List.length_cons, List.length_nil, Nat.zero_add, Nat.reduceAdd, V.isNone, Bool.false_eq_true, and_self, ite_true, ite_false, decide_true, decide_false, Nat.succ_ne_zero, Nat.reduceEqDiff, Nat.reduceLeDiff, Bool.true_eq_false, p1, p2, p3, Int.reduceLT, side_l _ _ _ _ hw, bV_mulI _ _ hm1 hm2, hrun]
          rcases hw with hw | hw
          · obtain ⟨r0, q0, t0, all0, g0', r1, q1, t1, all1, g1', a, b, d, e, f⟩ := hJ
            obtain ⟨τ', e1, hG⟩ := noted_good (n + 1) σ.n (σ.n + 6) r0 q0 t0 all0 g0' τ a (Nat.lt_of_le_of_lt e (Nat.lt_trans hi (by decide))) ss h6 ((i : Int) * 5 + 1) i
            exact fin2 τ' (by rw [if_pos hw, if_pos hw]; exact e1) (Inv.moved a b d (Nat.le_succ_of_le f) hG (Nat.succ_le_succ e))
          · obtain ⟨r0, q0, t0, all0, g0', r1, q1, t1, all1, g1', a, b, d, e, f⟩ := hJ.swap
            obtain ⟨τ', e1, hG⟩ := noted_good (n + 1) (σ.n + 2) (σ.n + 9) r0 q0 t0 all0 g0' τ a (Nat.lt_of_le_of_lt e (Nat.lt_trans hi (by decide))) ss h6 ((i : Int) * 5 + 1) i
            exact fin2 τ' (by rw [if_neg (by omega), if_neg (by omega)]; exact e1) (Inv.moved a b d (Nat.le_succ_of_le f) hG (Nat.succ_le_succ e)).swap)
        R S0 ⟨hI, rfl, rfl, rfl, rfl⟩
      have hlen : (rngList 0 240 1).length = 240 := by unfold rngList; simp
      rw [hlen, Nat.zero_add] at hJ
      have hit : ev P (run P (n + 4)) false (.bcall .range [.cInt 240]) R S0 = some (.ok (.rng 0 240 1), S0) := by simp only [execs, x_expr, x_assign, x_setattr, x_setidx, x_ite, x_ret, e_cNone, e_cBool, e_cInt, e_cStr, e_var, e_bin, e_cmp, e_bool, e_not, e_neg, e_fcall, e_new, e_mcall, e_bcall, e_bmeth, e_isinst, e_attr, e_idx, e_slice, e_list, e_tup, e_dict, evs, evBool, bindE_ok, bindM_ok, bindS_next, bindS_ret, fin_ret, fin_next, upd_at, rho_at, is_ii, is_ib, is_ss, is_tt, is_ll, is_bb, tV_bool, tV_int, bV_addI, bV_subI, bV_mulI, bV_fdivI, bV_modI, bV_powI, cV_lt, cV_le, cV_gt, cV_ge, cV_eqI, cV_neI, cV_eqS, cV_neS, bf_lenS, bf_lenL, bf_lenT, bf_min, bf_max, bf_abs, bf_r1, bf_r2, bf_r3, mkList, mkL, lim, Bf.long, Bm.long, Bool.not_true, Bool.not_false, if_true, if_false, reduceCtorEq, Option.map_some, Option.bind_some, Bool.false_and, Bool.true_and, Bool.and_true, Bool.and_false, Bool.or_false, Bool.or_true, Option.some.injEq, List.getElem?_cons_zero, List.getElem?_cons_succ, List.length_cons, List.length_nil, Nat.zero_add, Nat.reduceAdd, V.isNone, Bool.false_eq_true, and_self, ite_true, ite_false, decide_true, decide_false, Nat.succ_ne_zero, Nat.reduceEqDiff, Nat.reduceLeDiff, Bool.true_eq_false]
      have hfor := x_for1 P (run P (n + 4)) false R S0 hit (items := rngList 0 240 1) (by rfl) hloop
      simp only [loopEnd, unlockV, Bool.false_eq_true, if_false] at hfor
      refine ⟨ρ', τ, ?_, hJ, g0, g1, g2, g3⟩
      have hd : decide (c0 % 6 = 0) = true := by simpa using hc
      simp only [execs, x_expr, x_assign, x_setattr, x_setidx, x_ite, x_ret, e_cNone, e_cBool, e_cInt, e_cStr, e_var, e_bin, e_cmp, e_bool, e_not, e_neg, e_fcall, e_new, e_mcall, e_bcall, e_bmeth, e_isinst, e_attr, e_idx, e_slice, e_list, e_tup, e_dict, evs, evBool, bindE_ok, bindM_ok, bindS_next, bindS_ret, fin_ret, fin_next, upd_at, rho_at, is_ii, is_ib, is_ss, is_tt, is_ll, is_bb, tV_bool, tV_int, bV_addI, bV_subI, bV_mulI, bV_fdivI, bV_modI, bV_powI, cV_lt, cV_le, cV_gt, cV_ge, cV_eqI, cV_neI, cV_eqS, cV_neS, bf_lenS, bf_lenL, bf_lenT, bf_min, bf_max, bf_abs, bf_r1, bf_r2, bf_r3, mkList, mkL, lim, Bf.long, Bm.long, Bool.not_true, Bool.not_false, if_true, if_false, reduceCtorEq, Option.map_some, Option.bind_some, Bool.false_and, Bool.true_and, Bool.and_true, Bool.and_false, Bool.or_false, Bool.or_true, Option.some.injEq, List.getElem?_cons_zero, List.getElem?_cons_succ, List.length_cons, List.length_nil, Nat.zero_add, Nat.reduceAdd, V.isNone, Bool.false_eq_true, and_self, ite_true, ite_false, decide_true, decide_false, Nat.succ_ne_zero, Nat.reduceEqDiff, Nat.reduceLeDiff, Bool.true_eq_false, q0, ec0', Int.reduceLT, hd, hfor]
    · have hd : decide (c0 % 6 = 0) = false := by simpa using hc
      refine ⟨R, S0, ?_, ?_, rfl, rfl, rfl, rfl⟩
      · simp only [execs, x_expr, x_assign, x_setattr, x_setidx, x_ite, x_ret, e_cNone, e_cBool, e_cInt, e_cStr, e_var, e_bin, e_cmp, e_bool, e_not, e_neg, e_fcall, e_new, e_mcall, e_bcall, e_bmeth, e_isinst, e_attr, e_idx, e_slice, e_list, e_tup, e_dict, evs, evBool, bindE_ok, bindM_ok, bindS_next, bindS_ret, fin_ret, fin_next, upd_at, rho_at, is_ii, is_ib, is_ss, is_tt, is_ll, is_bb, tV_bool, tV_int, bV_addI, bV_subI, bV_mulI, bV_fdivI, bV_modI, bV_powI, cV_lt, cV_le, cV_gt, cV_ge, cV_eqI, cV_neI, cV_eqS, cV_neS, bf_lenS, bf_lenL, bf_lenT, bf_min, bf_max, bf_abs, bf_r1, bf_r2, bf_r3, mkList, mkL, lim, Bf.long, Bm.long, Bool.not_true, Bool.not_false, if_true, if_false, reduceCtorEq, Option.map_some, Option.bind_some, Bool.false_and, Bool.true_and, Bool.and_true, Bool.and_false, Bool.or_false, Bool.or_true, Option.some.injEq, List.getElem?_cons_zero, List.getElem?_cons_succ, List.length_cons, List.length_nil, Nat.zero_add, Nat.reduceAdd, V.isNone, Bool.false_eq_true, and_self, ite_true, ite_false, decide_true, decide_false, Nat.succ_ne_zero, Nat.reduceEqDiff, Nat.reduceLeDiff, Bool.true_eq_false, q0, ec0', Int.reduceLT, hd]
      · obtain ⟨r0, q0, t0, all0, g0, r1, q1, t1, all1, g1, a, b, d, e, f⟩ := hI
        exact ⟨r0, q0, t0, all0, g0, r1, q1, t1, all1, g1, a, b, d, Nat.le_trans e (by decide), Nat.le_trans f (by decide)⟩
  obtain ⟨R', S1, x4, hI1, g0, g1, g2, g3⟩ := x4
  have p0 : R' 0 = some (.lst (ns.map .int)) := g0
  have hit : ev P (run P (n + 4)) false (.bcall .range [.cInt 2, (.bin .sub (.bcall .len [(.var 0)]) (.cInt 1)), .cInt 2]) R' S1 = some (.ok (.rng 2 ((ns.length : Int) - 1) 2), S1) := by
    simp only [execs, x_expr, x_assign, x_setattr, x_setidx, x_ite, x_ret, e_cNone, e_cBool, e_cInt, e_cStr, e_var, e_bin, e_cmp, e_bool, e_not, e_neg, e_fcall, e_new, e_mcall, e_bcall, e_bmeth, e_isinst, e_attr, e_idx, e_slice, e_list, e_tup, e_dict, evs, evBool, bindE_ok, bindM_ok, bindS_next, bindS_ret, fin_ret, fin_next, upd_at, rho_at, is_ii, is_ib, is_ss, is_tt, is_ll, is_bb, tV_bool, tV_int, bV_addI, bV_subI, bV_mulI, bV_fdivI, bV_modI, bV_powI, cV_lt, cV_le, cV_gt, cV_ge, cV_eqI, cV_neI, cV_eqS, cV_neS, bf_lenS, bf_lenL, bf_lenT, bf_min, bf_max, bf_abs, bf_r1, bf_r2, bf_r3, mkList, mkL, lim, Bf.long, Bm.long, Bool.not_true, Bool.not_false, if_true, if_false, reduceCtorEq, Option.map_some, Option.bind_some, Bool.false_and, Bool.true_and, Bool.and_true, Bool.and_false, Bool.or_false, Bool.or_true, Option.some.injEq, List.getElem?_cons_zero, List.getElem?_cons_succ, List.length_cons, List.length_nil, Nat.zero_add, Nat.reduceAdd, V.isNone, Bool.false_eq_true, and_self, ite_true, ite_false, decide_true, decide_false, Nat.succ_ne_zero, Nat.reduceEqDiff, Nat.reduceLeDiff, Bool.true_eq_false, p0, List.length_map, Int.reduceLT]
  have hitems : itersOf false S1 (.rng 2 ((ns.length : Int) - 1) 2) = some (rngList 2 ((ns.length : Int) - 1) 2) :=
    rng_items (σ := S1) (by decide) (by decide) (by omega) (by decide) (by unfold lim; omega)
  obtain ⟨ρ', τ, ⟨hJ, k0, k1, k2, k3⟩, hloop⟩ := loop_ind (f := fun v ρ τ => execs P (run P (n + 4)) false body2 (upd ρ 4 v) τ)
    (I := fun i ρ τ => Inv τ σ.n (σ.n + 6) (σ.n + 2) (σ.n + 9) (240 + i) ∧ ρ 0 = R 0 ∧ ρ 1 = R 1 ∧ ρ 2 = R 2 ∧ ρ 3 = R 3) (rngList 2 ((ns.length : Int) - 1) 2) 0 (fun i v hv ρ τ ⟨hJ, g0, g1, g2, g3⟩ => by
      rw [Nat.zero_add] at hJ ⊢
      have hi := (rng_get hv).1
      have hv' : v = .int ((2 + 2 * i : Nat) : Int) := by
        rw [(rng_get hv).2]; rfl
      subst hv'
      have hk : (2 + 2 * i) + 1 < ns.length := by omega
      have hw : (ns[2 + 2 * i]'(by omega) % 2 = 0) ∨ (ns[2 + 2 * i]'(by omega) % 2 = 1) := by omega
      rcases hw with hw | hw
      · obtain ⟨ρ', τ', e, hV, z0, z1, z2, z3⟩ := body2_at n σ.n (σ.n + 6) (σ.n + 2) (σ.n + 9) σ.n (σ.n + 6) (σ.n + 2) (σ.n + 9) (.inl ⟨rfl, rfl, rfl, rfl⟩) (240 + i) (by omega) τ hJ ss h6 (upd ρ 4 (.int ((2 + 2 * i : Nat) : Int))) ns (2 + 2 * i) hk (by omega) 0
          (g0) (g1) (g2) (g3) rfl hw (fun _ => rfl) (fun _ => rfl)
        exact ⟨ρ', τ', ⟨hV, z0.trans g0, z1.trans g1, z2.trans g2, z3.trans g3⟩, e⟩
      · obtain ⟨ρ', τ', e, hV, z0, z1, z2, z3⟩ := body2_at n σ.n (σ.n + 6) (σ.n + 2) (σ.n + 9) (σ.n + 2) (σ.n + 9) σ.n (σ.n + 6) (.inr ⟨rfl, rfl, rfl, rfl⟩) (240 + i) (by omega) τ hJ.swap ss h6 (upd ρ 4 (.int ((2 + 2 * i : Nat) : Int))) ns (2 + 2 * i) hk (by omega) 1
          (g0) (g1) (g2) (g3) rfl hw (fun _ => rfl) (fun _ => rfl)
        exact ⟨ρ', τ', ⟨hV.swap, z0.trans g0, z1.trans g1, z2.trans g2, z3.trans g3⟩, e⟩) R' S1 ⟨hI1, g0, g1, g2, g3⟩
  have hfor := x_for1 P (run P (n + 4)) false R' S1 hit hitems hloop
  simp only [loopEnd, unlockV, Bool.false_eq_true, if_false] at hfor
  have y1 : ρ' 1 = some (.lst [.ref σ.n, .ref (σ.n + 2)]) := k1
  have y2 : ρ' 2 = some (.lst [.ref (σ.n + 6), .ref (σ.n + 9)]) := k2
  have en := hJ.ends (n + 2)
  have x6 : exec P (run P (n + 4)) false (.ret (.fcall "_law_ends" [(.idx (.var 1) (.cInt 0)), (.idx (.var 2) (.cInt 0))])) ρ' τ = some (.ret (.bool true), ρ', τ) := by
    have i00 : idxV τ (.lst [.ref σ.n, .ref (σ.n + 2)]) (.int 0) = some (.ref σ.n) := rfl
    have i10 : idxV τ (.lst [.ref (σ.n + 6), .ref (σ.n + 9)]) (.int 0) = some (.ref (σ.n + 6)) := rfl
    simp only [execs, x_expr, x_assign, x_setattr, x_setidx, x_ite, x_ret, e_cNone, e_cBool, e_cInt, e_cStr, e_var, e_bin, e_cmp, e_bool, e_not, e_neg, e_fcall, e_new, e_mcall, e_bcall, e_bmeth, e_isinst, e_attr, e_idx, e_slice, e_list, e_tup, e_dict, evs, evBool, bindE_ok, bindM_ok, bindS_next, bindS_ret, fin_ret, fin_next, upd_at, rho_at, is_ii, is_ib, is_ss, is_tt, is_ll, is_bb, tV_bool, tV_int, bV_addI, bV_subI, bV_mulI, bV_fdivI, bV_modI, bV_powI, cV_lt, cV_le, cV_gt, cV_ge, cV_eqI, cV_neI, cV_eqS, cV_neS, bf_lenS, bf_lenL, bf_lenT, bf_min, bf_max, bf_abs, bf_r1, bf_r2, bf_r3, mkList, mkL, lim, Bf.long, Bm.long, Bool.not_true, Bool.not_false, if_true, if_false, reduceCtorEq, Option.map_some, Option.bind_some, Bool.false_and, Bool.true_and, Bool.and_true, Bool.and_false, Bool.or_false, Bool.or_true, Option.some.injEq, List.getElem?_cons_zero, List.getElem?_cons_succ, List.length_cons, List.length_nil, Nat.zero_add, Nat.reduceAdd, V.isNone, Bool.false_eq_true, and_self, ite_true, ite_false, decide_true, decide_false, Nat.succ_ne_zero, Nat.reduceEqDiff, Nat.reduceLeDiff, Bool.true_eq_false, y1, y2, i00, i10, en]
  refine ⟨τ, ?_⟩
  have hb : f_law.body = [.assign 1 (.list false [(.new "Log" [] [] []), (.new "Log" [] [] [])]),
  .assign 2 (.list false [(.dict ["rows", "gone", "told"] [(.list true []), .cInt 0, (.list true [])]), (.dict ["rows", "gone", "told"] [(.list true []), .cInt 0, (.list true [])])]),
  .assign 3 (.fcall "_law_pool" [(.fcall "_law_cell_at" [(.var 0), .cInt 0]), (.fcall "_law_cell_at" [(.var 0), .cInt 1])]),
  .ite (.cmp .eq (.bin .mod (.fcall "_law_cell_at" [(.var 0), .cInt 0]) (.cInt 6)) (.cInt 0)) [.for1 4 (.bcall .range [.cInt 240]) [.ite (.not (.fcall "_law_noted" [(.idx (.var 1) (.bin .mod (.var 4) (.cInt 2))), (.idx (.var 2) (.bin .mod (.var 4) (.cInt 2))), (.var 3), (.bin .add (.bin .mul (.var 4) (.cInt 5)) (.cInt 1)), (.var 4)])) [.ret (.cBool false)] []]] [],
  .for1 4 (.bcall .range [.cInt 2, (.bin .sub (.bcall .len [(.var 0)]) (.cInt 1)), .cInt 2]) body2,
  .ret (.fcall "_law_ends" [(.idx (.var 1) (.cInt 0)), (.idx (.var 2) (.cInt 0))])] := rfl
  rw [hb]
  simp only [execs, x1, x2, x3, x4, hfor, x6, bindS_next, bindS_ret, fin_ret]
end Lw.L02
open PySem PySem.W PyProof.Rows
namespace Lw.L02
noncomputable def V : Program := viewOf PySem.Challenge.rw_uf040027_02.row.prog
noncomputable def Xt (s : Shared) : Bool := xlAt V [] s && recOk (RowW.records PySem.Challenge.rw_uf040027_02.row.toRowW) s
theorem ran (w : World) : (endsOf PySem.Challenge.rw_uf040027_02.row.prog 1902 w).map (fun s => (openSeen V [] (importedModules PySem.Challenge.rw_uf040027_02.row.prog.main.body) Xt true s, tbl.all (entOk (fragOf (List.range 180) s) com), comOk (fragOf (List.range 180) s) com tbl)) = some (openGood V [], true, true) := by kernel_rfl
theorem seen (w : World) : (endsOf PySem.Challenge.rw_uf040027_02.row.prog 1902 w).map (fun s => openSeen V [] (importedModules PySem.Challenge.rw_uf040027_02.row.prog.main.body) Xt true s) = some (openGood V []) := ran1 (ran w)
theorem left : LeftO PySem.Challenge.rw_uf040027_02.row.prog V [] Xt (fun s => some s.heap) (fun w => (endsOf PySem.Challenge.rw_uf040027_02.row.prog 1902 w).map (·.heap)) 1902 := left_of (p := PySem.Challenge.rw_uf040027_02.row.prog) (q := V) (loose := []) (Xt := Xt) (N := 1902) seen
end Lw.L02
open PySem PySem.W PyProof.Rows
namespace Lw.L02
abbrev R := PySem.Challenge.rw_uf040027_02
theorem h1 : defOf V R.row.name = some (defD V (Str.ofString "law"), []) := by kernel_rfl
theorem h2 : R.row.prog.theDef R.row.name = some ((defD V (Str.ofString "law")).params, (defD V (Str.ofString "law")).body, (defD V (Str.ofString "law")).scope) := by kernel_rfl
theorem h3 : kwWritten? (defD V (Str.ofString "law")).params.kwonlyargs (defD V (Str.ofString "law")).params.kw_defaults = some [] := by kernel_rfl
theorem h4 : (!R.row.writes || R.row.toRowW.records.isEmpty) = true := by kernel_rfl
theorem h5 : (chainsOk V && opensWell R.row.prog && (frees R.row.toRowW && R.row.toRowW.within.isEmpty)) = true := by kernel_rfl
theorem h6 : R.wellSaid = true := by kernel_rfl
end Lw.L02
open PySem PySem.W PyProof.Rows
set_option maxRecDepth 100000 in
set_option maxHeartbeats 1000000 in
theorem PySem.Challenge.cw_uf040027_02_holds : PySem.Challenge.rw_uf040027_02.Holds := by
  refine holds_law Lw.L02.h6 fun said => ?_
  refine holds_open (r := PySem.Challenge.rw_uf040027_02.row) (q := Lw.L02.V) (loose := []) (Xt := Lw.L02.Xt) (XP := XL Lw.L02.V []) (YP := Lw.saysOf PySem.Challenge.rw_uf040027_02.row.prog 1902)
    (d := Lw.defD Lw.L02.V (Str.ofString "law")) (kwd := []) (N := 1902) Lw.L02.left (Lw.says_of _ _) (Lw.says_keeps _ _) (fun s e => xl_of s (Bool.and_eq_true_iff.mp e).1) XL.keeps Lw.L02.h1 Lw.L02.h2 Lw.L02.h3 (fun s e => recFacts_of (Bool.and_eq_true_iff.mp e).2)
    Lw.L02.h4 said Lw.L02.h5 ⟨rfl, rfl, rfl, rfl, rfl, by decide +kernel⟩ ?hw ?hc
  case hw => w_witness2
  intro w s₀ s₁ mg mb G Y fa o pm cd doc dV kV ho hd hcd hD hmg hg args vals as hpre hlay hrd hwl hlo
  refine Ground.open G ?_
  intro T B D TE TW
  wrow_args hpre hlay hrd hwl hlo
  rename_i ns _ _ _ _ _ _ _ l vs _ hL _ _ _ hI _ hcond _
  obtain ⟨K, KX, hE, hC⟩ := Lw.frag_ran (Lw.L02.ran w) Y
  refine Lw.law_top (sub := fun _ _ => false) (n := 5) KX T.g T.b T.nolimit T.builtins hmg hE hC rfl hL hI (by omega) (by decide) (Lw.L02.law_at 0 ns (by omega) Lw.St.empty) fun s' hs hk => ?_
  obtain ⟨h', tk, rfl⟩ := hs
  refine GoodW.toG ⟨.inl ⟨.bool true, .bool true, [], rfl, fun _ => rfl, .bool true, ?_, fun _ => ⟨List.nodup_nil, fun a ha => (by cases ha)⟩⟩, hk, rfl, hg⟩
  first | rfl | kernel_rfl
