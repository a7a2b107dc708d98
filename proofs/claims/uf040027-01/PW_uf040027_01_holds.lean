import PyProof.Rows.All
import PyProof.P3Statements
import Open.Row
import Wide.All
import KE.KDictSum
import KE.KRevSl
import KE.KSortAsk
import KE.KSortTup
import KE.KIsAll
import PyProof.ExcClass3
import PyProof.ExcAttrAll.ValueError
import Open.Tree
import Open.Boot
import Open.FastT9
import Wide.FinOn
import PyProof.TableCode
import PySem.Challenge.RW_uf040027_01
set_option Elab.async false
set_option linter.all false
set_option autoImplicit false
namespace Lw
open PySem
set_option genSizeOf false
inductive V where
  | none
  | bool (b : Bool)
  | int (i : Int)
  | str (s : Str)
  | tup (vs : List V)
  | lst (vs : List V)
  | rng (a b c : Int)
  | ref (i : Nat)
  | exc (c : String)
  deriving Inhabited
noncomputable def V.isNone : V → Bool
  | .none => true
  | _ => false
inductive O where
  | list (lk : Bool) (vs : List V)
  | di (lk : Bool) (es : List (Int × V))
  | ds (lk : Bool) (es : List (Str × V))
  | inst (c : String) (fs : List (String × V))
structure St where
  n : Nat
  f : Nat → Option O
noncomputable def St.get (σ : St) (i : Nat) : Option O := σ.f i
noncomputable def St.set (σ : St) (i : Nat) (o : O) : St := ⟨σ.n, fun j => if j = i then some o else σ.f j⟩
noncomputable def St.new (σ : St) (o : O) : St := ⟨σ.n + 1, fun j => if j = σ.n then some o else σ.f j⟩
noncomputable def St.empty : St := ⟨0, fun _ => none⟩
inductive Res (α : Type) where
  | ok (a : α)
  | exc (c : String)
abbrev RV := Option (Res V × St)
noncomputable def bindM {α β : Type} (m : Option (Res α × St)) (k : α → St → Option (Res β × St)) : Option (Res β × St) :=
  match m with
  | none => none
  | some (.exc c, σ) => some (.exc c, σ)
  | some (.ok a, σ) => k a σ
inductive Ty where
  | int | bool | str | tuple | list | valueError
  | own (c : String)
inductive BOp where | add | sub | mul | fdiv | mod | pow
inductive COp where | lt | le | gt | ge | eq | ne | isin | notin
inductive Bf where | len | sorted (pr mt : Bool) | range | min | max | abs | int | list | tuple
inductive Bm where | append | clear | pop | get | startswith | join
set_option genInjectivity false in
inductive E where
  | cNone | cBool (b : Bool) | cInt (i : Int) | cStr (s : Str)
  | var (k : Nat)
  | gint (x : String) (i : Int)
  | bin (op : BOp) (a b : E)
  | cmp (op : COp) (a b : E)
  | chain (a b c : E)
  | isNone (a : E) | notNone (a : E)
  | bool (isAnd : Bool) (es : List E)
  | not (a : E) | neg (a : E)
  | fcall (f : String) (args : List E)
  | new (c : String) (args : List E) (kwn : List String) (kwe : List E)
  | mcall (o : E) (m : String) (args : List E) (kwn : List String) (kwe : List E)
  | bcall (f : Bf) (args : List E)
  | bmeth (m : Bm) (o : E) (args : List E)
  | isinst (a : E) (t : Ty)
  | attr (o : E) (a : String)
  | idx (o i : E)
  | slice (mt : Bool) (o lo hi : E)
  | rev (mt : Bool) (o : E)
  | list (mt : Bool) (es : List E)
  | tup (es : List E)
  | dict0 (str : Bool)
  | dict (ks : List Str) (vs : List E)
  | comp (mt : Bool) (elt : E) (k : Nat) (it cond : E)
set_option genInjectivity false in
inductive S where
  | expr (e : E)
  | assign (k : Nat) (e : E)
  | setattr (o : E) (a : String) (e : E)
  | setidx (o i e : E)
  | ite (c : E) (t f : List S)
  | for1 (k : Nat) (it : E) (b : List S)
  | for2 (k1 k2 : Nat) (it : E) (b : List S)
  | ret (e : E)
  | raise (c : String) (msg : Str)
  | tryx (b : List S) (c : String) (k : Nat) (h : List S)
structure Fn where
  params : List String
  defaults : List V
  body : List S
structure Prog where
  fns : String → String → Option Fn
  sub : String → String → Bool
abbrev Rho := Nat → Option V
noncomputable def upd (ρ : Rho) (k : Nat) (v : V) : Rho := fun j => if j = k then some v else ρ j
noncomputable def lim : Nat := 1000000
section
variable {κ ν : Type} [DecidableEq κ]
noncomputable def lk (kvs : List (κ × ν)) (k : κ) : Option ν := (kvs.find? fun kv => kv.1 = k).map (·.2)
noncomputable def st (kvs : List (κ × ν)) (k : κ) (v : ν) : List (κ × ν) :=
  if kvs.any (fun kv => kv.1 = k) then kvs.map (fun kv => if kv.1 = k then (kv.1, v) else kv) else kvs ++ [(k, v)]
noncomputable def rm (kvs : List (κ × ν)) (k : κ) : List (κ × ν) := kvs.filter fun kv => decide (kv.1 ≠ k)
end
noncomputable def onO {α β : Type} (o : Option α) (k : α → Option β) : Option β := match o with | some a => k a | none => none
noncomputable def mapO {α β : Type} (f : α → Option β) : List α → Option (List β)
  | [] => some []
  | a :: r => onO (f a) fun b => onO (mapO f r) fun bs => some (b :: bs)
noncomputable def withInt {α : Type} (v : V) (k : Int → Option α) : Option α := match v with | .int i => k i | _ => none
noncomputable def withStr {α : Type} (v : V) (k : Str → Option α) : Option α := match v with | .str s => k s | _ => none
noncomputable def withLst {α : Type} (v : V) (k : List V → Option α) : Option α := match v with | .lst s => k s | _ => none
noncomputable def withBool {α : Type} (v : V) (k : Bool → Option α) : Option α := match v with | .bool b => k b | _ => none
noncomputable def withRef {α : Type} (v : V) (k : Nat → Option α) : Option α := match v with | .ref i => k i | _ => none
noncomputable def O.items : O → Option (List V)
  | .list _ vs => some vs
  | _ => none
noncomputable def listAt (σ : St) (i : Nat) : Option (List V) := (σ.get i).bind O.items
noncomputable def flatD : V → Option PyData
  | .none => some .none
  | .bool b => some (.bool b)
  | .int i => some (.int i)
  | .str s => some (.str s)
  | _ => none
noncomputable def seqD (f : List V → Option (List PyData)) (σ : St) : V → Option PyData
  | .tup vs => (f vs).map .tuple
  | .lst vs => (f vs).map .list
  | .ref i => onO (listAt σ i) fun vs => (f vs).map .list
  | _ => none
noncomputable def orElse {α : Type} (a b : Option α) : Option α := match a with | some x => some x | none => b
noncomputable def dataOf (σ : St) : Nat → V → Option PyData
  | 0, v => flatD v
  | n + 1, v => orElse (flatD v) (seqD (mapO (dataOf σ n)) σ v)
noncomputable def eqV (σ : St) (a b : V) : Option Bool := onO (dataOf σ 6 a) fun x => onO (dataOf σ 6 b) fun y => some (PyData.eqv x y)
noncomputable def inL (σ : St) (a : V) (vs : List V) : Option Bool := onO (mapO (dataOf σ 5) vs) fun xs => onO (dataOf σ 6 a) fun d => some (xs.any fun y => PyData.eqv y d)
noncomputable def inO (σ : St) (a : V) : O → Option Bool
  | .di _ es => withInt a fun k => some (lk es k).isSome
  | .ds _ es => withStr a fun k => some (lk es k).isSome
  | .list _ vs => inL σ a vs
  | .inst _ _ => none
noncomputable def inV (σ : St) (a b : V) : Option Bool := match b with
  | .ref i => onO (σ.get i) (inO σ a)
  | .lst vs => inL σ a vs
  | _ => none
noncomputable def cmpI (a b : V) (k : Int → Int → Bool) : Option Bool := withInt a fun i => withInt b fun j => some (k i j)
noncomputable def cmpV (σ : St) (op : COp) (a b : V) : Option Bool := match op with
  | .lt => cmpI a b fun a b => decide (a < b)
  | .le => cmpI a b fun a b => decide (a ≤ b)
  | .gt => cmpI a b fun a b => decide (b < a)
  | .ge => cmpI a b fun a b => decide (b ≤ a)
  | .eq => eqV σ a b
  | .ne => (eqV σ a b).map (!·)
  | .isin => inV σ a b
  | .notin => (inV σ a b).map (!·)
noncomputable def int2 (a b : V) (k : Int → Int → Option V) : Option V := withInt a fun i => withInt b fun j => k i j
noncomputable def addV (a b : V) : Option V := match a with
  | .int i => withInt b fun j => some (.int (i + j))
  | .str s => withStr b fun u => if s.length + u.length ≤ lim then some (.str (s ++ u)) else none
  | .lst s => withLst b fun u => if s.length + u.length ≤ lim then some (.lst (s ++ u)) else none
  | _ => none
noncomputable def binV (op : BOp) (a b : V) : Option V := match op with
  | .add => addV a b
  | .sub => int2 a b fun a b => some (.int (a - b))
  | .mul => int2 a b fun a b => if a.natAbs < 2 ^ 60 ∧ b.natAbs < 2 ^ 60 then some (.int (a * b)) else none
  | .fdiv => int2 a b fun a b => if 0 < b ∧ b < 2 ^ 60 then some (.int (a / b)) else none
  | .mod => int2 a b fun a b => if 0 < b ∧ b < 2 ^ 60 then some (.int (a % b)) else none
  | .pow => int2 a b fun a b => if a = 10 ∧ 0 ≤ b ∧ b ≤ 40 then some (.int (10 ^ b.toNat)) else none
noncomputable def truthV (_ : St) : V → Option Bool
  | .none => some false
  | .bool b => some b
  | .int i => some (decide (i ≠ 0))
  | _ => none
noncomputable def flatKind : V → Option Nat
  | .none => some 0 | .bool _ => some 1 | .int _ => some 2 | .str _ => some 3 | _ => none
noncomputable def withTup {α : Type} (v : V) (k : List V → Option α) : Option α := match v with | .tup s => k s | _ => none
noncomputable def withExc {α : Type} (v : V) (k : String → Option α) : Option α := match v with | .exc c => k c | _ => none
noncomputable def seqOf (σ : St) : V → Option (List V)
  | .lst vs => some vs
  | .ref i => listAt σ i
  | _ => none
noncomputable def O.isOf (d : String) : O → Option Bool
  | .inst c _ => if c = d then some true else none
  | _ => none
noncomputable def isinstV (P : Prog) (σ : St) (v : V) (t : Ty) : Option Bool := match t with
  | .int => (flatKind v).map fun k => k == 1 || k == 2
  | .bool => (flatKind v).map fun k => k == 1
  | .str => (flatKind v).map fun k => k == 3
  | .tuple => withTup v fun _ => some true
  | .list => (seqOf σ v).map fun _ => true
  | .valueError => withExc v fun _ => some true
  | .own d => orElse (withExc v fun c => some (P.sub c d)) (withRef v fun i => onO (σ.get i) (O.isOf d))
noncomputable def place (i : Int) (n : Nat) : Option Nat :=
  if i.natAbs < 2 ^ 60 then
    (if 0 ≤ i then (if i < n then some i.toNat else none) else (if 0 ≤ i + n then some (i + n).toNat else none))
  else none
noncomputable def at1 (vs : List V) (k : Int) : Option V := (place k vs.length).bind (vs[·]?)
noncomputable def idxO (i : V) : O → Option V
  | .list _ vs => withInt i (at1 vs)
  | .di _ es => withInt i (lk es)
  | .ds _ es => withStr i (lk es)
  | .inst _ _ => none
noncomputable def idxS (s : Str) (k : Int) : Option V := (place k s.cps.size).bind fun j => (s.cps[j]?).map fun c => .str ⟨#[c]⟩
noncomputable def idxV (σ : St) (o i : V) : Option V := match o with
  | .lst vs => withInt i (at1 vs)
  | .tup vs => withInt i (at1 vs)
  | .str s => withInt i (idxS s)
  | .ref r => (σ.get r).bind (idxO i)
  | _ => none
noncomputable def clamp (d : Nat) (v : V) (n : Nat) : Option Nat := match v with
  | .none => some d
  | .int i => some (if 0 ≤ i then min i.toNat n else (i + n).toNat)
  | _ => none
noncomputable def cutV {α : Type} (lo hi : V) (m : Nat) (k : Nat → Nat → Option α) : Option α := onO (clamp 0 lo m) fun a => onO (clamp m hi m) fun b => k a b
noncomputable def cutL {α : Type} (xs : List α) (lo hi : Nat) : List α := (xs.take hi).drop lo
noncomputable def sOk (s : Str) : Bool := PyData.strOk s && decide (s.cps.size ≤ lim)
noncomputable def mkL (mt : Bool) (vs : List V) (σ : St) : RV :=
  if mt then some (.ok (.ref σ.n), σ.new (.list false vs)) else some (.ok (.lst vs), σ)
noncomputable def mkList (mt : Bool) (vs : List V) (σ : St) : RV := if vs.length ≤ lim then mkL mt vs σ else none
noncomputable def sliceV (mt : Bool) (o lo hi : V) (σ : St) : RV := match o with
  | .str s => cutV lo hi s.cps.size fun a b => some (.ok (.str ⟨(cutL s.cps.toList a b).toArray⟩), σ)
  | o => onO (seqOf σ o) fun vs => cutV lo hi vs.length fun a b => mkL mt (cutL vs a b) σ
noncomputable def strLe (a b : Str) : Bool := !(decide (b.cps.toList < a.cps.toList))
noncomputable def askT {α : Type} (c : Nat → Nat → Bool) : PySem.W.KasT α → α
  | .ret a => a
  | .ask i j k => askT c (k (c i j))
noncomputable def pairLt (a b : Int × Int) : Bool := if a.1 = b.1 then decide (a.2 < b.2) else decide (a.1 < b.1)
noncomputable def pairAt (ps : List (Int × Int)) (i : Nat) : Int × Int := ps.getD i (0, 0)
noncomputable def orderP (ps : List (Int × Int)) : List Nat := (askT (fun i j => pairLt (pairAt ps i) (pairAt ps j)) (PySem.W.kas_sort ps.length)).toList
noncomputable def sortP (ps : List (Int × Int)) : List (Int × Int) := (orderP ps).map (pairAt ps)
noncomputable def asStrs : List V → Option (List Str) := mapO fun v => withStr v some
noncomputable def asPair (v : V) : Option (Int × Int) := withTup v fun vs => match vs with | [a, b] => withInt a fun a => withInt b fun b => some (a, b) | _ => none
noncomputable def asPairs : List V → Option (List (Int × Int)) := mapO asPair
noncomputable def pairV (p : Int × Int) : V := .tup [.int p.1, .int p.2]
noncomputable def sortV (pr : Bool) (vs : List V) : Option (List V) :=
  if vs.length < 64 then (if pr then (asPairs vs).map fun ps => (sortP ps).map pairV else (asStrs vs).map fun ss => (ss.mergeSort strLe).map .str) else none
noncomputable def rngList (a b c : Int) : List V := (List.range ((b - a + c - 1) / c).toNat).map fun (k : Nat) => .int (a + c * (k : Int))
noncomputable def O.iter : O → Option (List V)
  | .list _ vs => some vs
  | .di _ es => some (es.map fun kv => .int kv.1)
  | .ds _ es => some (es.map fun kv => .str kv.1)
  | .inst _ _ => none
noncomputable def itemsOf (σ : St) : V → Option (List V)
  | .lst vs => some vs
  | .tup vs => some vs
  | .rng a b c => if 0 < c ∧ a.natAbs < 2 ^ 60 ∧ b.natAbs < 2 ^ 60 ∧ c < 2 ^ 60 ∧ ((b - a + c - 1) / c).toNat ≤ lim then some (rngList a b c) else none
  | .ref i => onO (σ.get i) O.iter
  | _ => none
noncomputable def itersOf (hd : Bool) (σ : St) (v : V) : Option (List V) := if hd then withLst v some else itemsOf σ v
noncomputable def asg2 (k1 k2 : Nat) (v : V) (ρ : Rho) : Option Rho := withTup v fun vs => match vs with | [x, y] => some (upd (upd ρ k1 x) k2 y) | _ => none
noncomputable def O.keys : O → Option (List V)
  | .list _ vs => some vs
  | .ds _ es => some (es.map fun kv => .str kv.1)
  | _ => none
noncomputable def sortItems (σ : St) : V → Option (List V)
  | .lst vs => some vs
  | .ref i => onO (σ.get i) O.keys
  | _ => none
noncomputable def sortFrom (pr : Bool) (σ : St) (v : V) : Option (List V) := match pr with
  | true => seqOf σ v
  | false => sortItems σ v
noncomputable def O.locked : O → O
  | .list _ vs => .list true vs
  | .di _ es => .di true es
  | .ds _ es => .ds true es
  | o => o
noncomputable def lockV (σ : St) : V → St
  | .ref i => match σ.get i with | some o => σ.set i o.locked | none => σ
  | _ => σ
noncomputable def unlockV (σ₀ : St) (v : V) (σ : St) : St :=
  match v with
  | .ref i => match σ₀.get i with | some o => σ.set i o | none => σ
  | _ => σ
noncomputable def retV (o : Option V) (σ : St) : RV := o.map fun v => (.ok v, σ)
noncomputable def retB (o : Option Bool) (σ : St) : RV := o.map fun b => (.ok (.bool b), σ)
noncomputable def arg1 {α : Type} (args : List V) (k : V → Option α) : Option α := match args with | [a] => k a | _ => none
noncomputable def arg2 {α : Type} (args : List V) (k : V → V → Option α) : Option α := match args with | [a, b] => k a b | _ => none
noncomputable def O.len : O → Option Nat
  | .list _ vs => some vs.length
  | .di _ es => some es.length
  | .ds _ es => some es.length
  | .inst _ _ => none
noncomputable def lenV (σ : St) : V → Option Nat
  | .str s => some s.cps.size
  | .lst vs => some vs.length
  | .tup vs => some vs.length
  | .ref i => (σ.get i).bind O.len
  | _ => none
noncomputable def O.free : O → Option (List V)
  | .list false vs => some vs
  | _ => none
noncomputable def rangeV (args : List V) (σ : St) : RV := match args with
  | [b] => withInt b fun b => some (.ok (.rng 0 b 1), σ)
  | [a, b] => withInt a fun a => withInt b fun b => some (.ok (.rng a b 1), σ)
  | [a, b, c] => withInt a fun a => withInt b fun b => withInt c fun c => if 0 < c ∧ c < 1000000 then some (.ok (.rng a b c), σ) else none
  | _ => none
noncomputable def bfV (f : Bf) (args : List V) (σ : St) : RV :=
  match f with
  | .len => arg1 args fun v => retV ((lenV σ v).map fun (n : Nat) => .int n) σ
  | .sorted pr mt => arg1 args fun v => onO (sortFrom pr σ v) fun vs => onO (sortV pr vs) fun ws => mkL mt ws σ
  | .range => rangeV args σ
  | .min => arg2 args fun a b => withInt a fun a => withInt b fun b => some (.ok (.int (if b < a then b else a)), σ)
  | .max => arg2 args fun a b => withInt a fun a => withInt b fun b => some (.ok (.int (if a < b then b else a)), σ)
  | .abs => arg1 args fun a => withInt a fun a => some (.ok (.int (a.natAbs : Int)), σ)
  | .int => arg1 args fun v => withBool v fun b => some (.ok (.int (if b then 1 else 0)), σ)
  | .list => arg1 args fun v => onO (seqOf σ v) fun vs => mkL true vs σ
  | .tuple => arg1 args fun v => retV ((seqOf σ v).map .tup) σ
noncomputable def O.popped (k : V) : O → Option (V × O)
  | .di false es => withInt k fun k => (lk es k).map fun v => (v, .di false (rm es k))
  | .ds false es => withStr k fun k => (lk es k).map fun v => (v, .ds false (rm es k))
  | _ => none
noncomputable def O.got (k d : V) : O → Option V
  | .di _ es => withInt k fun k => some ((lk es k).getD d)
  | .ds _ es => withStr k fun k => some ((lk es k).getD d)
  | _ => none
noncomputable def getArgs (args : List V) (k : V → Option V → RV) : RV := match args with
  | [a] => k a none
  | [a, d] => k a (some d)
  | _ => none
noncomputable def arg0 {α : Type} (args : List V) (k : Option α) : Option α := match args with | [] => k | _ => none
noncomputable def bmV (m : Bm) (o : V) (args : List V) (σ : St) : RV :=
  match m with
  | .append => withRef o fun i => arg1 args fun v => onO ((σ.get i).bind O.free) fun vs => if vs.length < lim then some (.ok .none, σ.set i (.list false (vs ++ [v]))) else none
  | .clear => withRef o fun i => arg0 args (onO ((σ.get i).bind O.free) fun _ => some (.ok .none, σ.set i (.list false [])))
  | .pop => withRef o fun i => arg1 args fun k => onO (σ.get i) fun ob => onO (ob.popped k) fun r => some (.ok r.1, σ.set i r.2)
  | .get => withRef o fun i => getArgs args fun k d => onO (σ.get i) fun ob => retV (ob.got k (d.getD .none)) σ
  | .startswith => withStr o fun s => arg1 args fun p => withStr p fun p => some (.ok (.bool (p.cps.toList.isPrefixOf s.cps.toList)), σ)
  | .join => withStr o fun sep => arg1 args fun v => onO (seqOf σ v) fun vs => onO (asStrs vs) fun ss =>
      if sep.cps.size = 0 ∧ (ss.map (·.length)).sum + ss.length ≤ lim then some (.ok (.str (Str.join sep ss)), σ) else none
noncomputable def setF : List (String × V) → String → V → List (String × V)
  | [], a, v => [(a, v)]
  | (b, u) :: r, a, v => if b = a then (b, v) :: r else (b, u) :: setF r a v
noncomputable def O.setField (a : String) (v : V) : O → Option O
  | .inst c fs => if fs.length < 100 then some (.inst c (setF fs a v)) else none
  | _ => none
noncomputable def setattrV (o : V) (a : String) (v : V) (σ : St) : Option St := withRef o fun i => onO (σ.get i) fun ob => (ob.setField a v).map (σ.set i)
noncomputable def O.setItem (k v : V) : O → Option O
  | .di false es => withInt k fun k => if es.length < lim then some (.di false (st es k v)) else none
  | .ds false es => withStr k fun k => if es.length < lim then some (.ds false (st es k v)) else none
  | _ => none
noncomputable def setidxV (o k v : V) (σ : St) : Option St := withRef o fun i => onO (σ.get i) fun ob => (ob.setItem k v).map (σ.set i)
noncomputable def O.field (a : String) : O → Option V
  | .inst _ fs => lk fs a
  | _ => none
noncomputable def attrV (σ : St) (o : V) (a : String) : Option V := withRef o fun i => onO (σ.get i) (O.field a)
noncomputable def O.meth (P : Prog) (m : String) : O → Option String
  | .inst c fs => if (lk fs m).isNone && (P.fns c m).isSome then some c else none
  | _ => none
noncomputable def methV (P : Prog) (σ : St) (o : V) (m : String) : Option String := withRef o fun i => onO (σ.get i) (O.meth P m)
noncomputable def O.knd : O → Nat
  | .list _ _ => 1 | .di _ _ => 2 | .ds _ _ => 2 | .inst _ _ => 0
noncomputable def kndV (σ : St) : V → Nat
  | .ref i => (match σ.get i with | some o => o.knd | none => 0)
  | .str _ => 3
  | _ => 0
noncomputable def Bm.knd : Bm → Nat
  | .append => 1 | .clear => 1 | .pop => 2 | .get => 2 | .startswith => 3 | .join => 3
noncomputable def bmPre (σ : St) (m : Bm) (o : V) : Bool := kndV σ o == m.knd
noncomputable def Bf.pairs : Bf → Bool
  | .sorted pr _ => pr | _ => false
noncomputable def Bf.long : Bf → Bool
  | .sorted _ _ => true | .list => true | .tuple => true | .min => true | .max => true | _ => false
noncomputable def Bm.long : Bm → Bool
  | .join => true | _ => false
noncomputable def Cl := Bool → String → String → List V → List (String × V) → St → RV
noncomputable def compL (test : V → St → RV) (elt : V → St → RV) : List V → St → Option (Res (List V) × St)
  | [], σ => some (.ok [], σ)
  | v :: r, σ => bindM (test v σ) fun t σ => onO (truthV σ t) fun t => match t with
      | true => bindM (elt v σ) fun x σ => bindM (compL test elt r σ) fun xs σ => some (.ok (x :: xs), σ)
      | false => compL test elt r σ
noncomputable def okM {α : Type} (m : Option (Res α × St)) : Option (α × St) := match m with | some (.ok a, σ) => some (a, σ) | _ => none
mutual
noncomputable def ev (P : Prog) (cl : Cl) (hd : Bool) : E → Rho → St → RV
  | .cNone, _, σ => some (.ok .none, σ)
  | .cBool b, _, σ => some (.ok (.bool b), σ)
  | .cInt i, _, σ => some (.ok (.int i), σ)
  | .cStr s, _, σ => some (.ok (.str s), σ)
  | .var k, ρ, σ => retV (ρ k) σ
  | .gint _ i, _, σ => some (.ok (.int i), σ)
  | .bin op a b, ρ, σ => bindM (ev P cl hd a ρ σ) fun x σ => bindM (ev P cl hd b ρ σ) fun y σ => retV (binV op x y) σ
  | .cmp op a b, ρ, σ => bindM (ev P cl hd a ρ σ) fun x σ => bindM (ev P cl hd b ρ σ) fun y σ => retB (cmpV σ op x y) σ
  | .chain a b c, ρ, σ => bindM (ev P cl hd a ρ σ) fun x σ => bindM (ev P cl hd b ρ σ) fun y σ => onO (cmpV σ .le x y) fun t => match t with
      | true => bindM (ev P cl hd c ρ σ) fun z σ => retB (cmpV σ .le y z) σ
      | false => some (.ok (.bool false), σ)
  | .isNone a, ρ, σ => bindM (ev P cl hd a ρ σ) fun x σ => some (.ok (.bool x.isNone), σ)
  | .notNone a, ρ, σ => bindM (ev P cl hd a ρ σ) fun x σ => some (.ok (.bool (!x.isNone)), σ)
  | .bool isAnd es, ρ, σ => evBool P cl hd isAnd es ρ σ
  | .not a, ρ, σ => bindM (ev P cl hd a ρ σ) fun x σ => retB ((truthV σ x).map (!·)) σ
  | .neg a, ρ, σ => bindM (ev P cl hd a ρ σ) fun x σ => retV (withInt x fun i => some (.int (-i))) σ
  | .fcall f args, ρ, σ => bindM (evs P cl hd args ρ σ) fun vs σ => cl hd "" f vs [] σ
  | .new c args kwn kwe, ρ, σ => bindM (evs P cl hd args ρ σ) fun vs σ => bindM (evs P cl hd kwe ρ σ) fun ks σ =>
      bindM (cl hd c "__init__" (.ref σ.n :: vs) (kwn.zip ks) (σ.new (.inst c []))) fun r σ' => if r.isNone then some (.ok (.ref σ.n), σ') else none
  | .mcall o m args kwn kwe, ρ, σ => bindM (ev P cl hd o ρ σ) fun ov σ => onO (methV P σ ov m) fun c =>
      bindM (evs P cl hd args ρ σ) fun vs σ => bindM (evs P cl hd kwe ρ σ) fun ks σ => cl hd c m (ov :: vs) (kwn.zip ks) σ
  | .bcall f args, ρ, σ => bindM (evs P cl hd args ρ σ) fun vs σ => if f.long && hd then none else bfV f vs σ
  | .bmeth m o args, ρ, σ => bindM (ev P cl hd o ρ σ) fun ov σ => if bmPre σ m ov then bindM (evs P cl hd args ρ σ) fun vs σ =>
      if m.long && hd then none else bmV m ov vs σ else none
  | .isinst a t, ρ, σ => bindM (ev P cl hd a ρ σ) fun x σ => retB (isinstV P σ x t) σ
  | .attr o a, ρ, σ => bindM (ev P cl hd o ρ σ) fun ov σ => retV (attrV σ ov a) σ
  | .idx o i, ρ, σ => bindM (ev P cl hd o ρ σ) fun ov σ => bindM (ev P cl hd i ρ σ) fun iv σ => retV (idxV σ ov iv) σ
  | .slice mt o lo hi, ρ, σ => bindM (ev P cl hd o ρ σ) fun ov σ => bindM (ev P cl hd lo ρ σ) fun lv σ => bindM (ev P cl hd hi ρ σ) fun hv σ => sliceV mt ov lv hv σ
  | .rev mt o, ρ, σ => bindM (ev P cl hd o ρ σ) fun ov σ => onO (seqOf σ ov) fun vs => mkL mt vs.reverse σ
  | .list mt es, ρ, σ => bindM (evs P cl hd es ρ σ) fun vs σ => mkList mt vs σ
  | .tup es, ρ, σ => bindM (evs P cl hd es ρ σ) fun vs σ => if vs.length ≤ lim then some (.ok (.tup vs), σ) else none
  | .dict0 s, _, σ => some (.ok (.ref σ.n), σ.new (if s then .ds false [] else .di false []))
  | .dict ks vs, ρ, σ => bindM (evs P cl hd vs ρ σ) fun xs σ => some (.ok (.ref σ.n), σ.new (.ds false (ks.zip xs)))
  | .comp mt elt k it cond, ρ, σ => if hd then none else bindM (ev P cl false it ρ σ) fun itv σ => onO (itemsOf σ itv) fun items =>
      onO (okM (compL (fun v σ => ev P cl false cond (upd ρ k v) σ) (fun v σ => ev P cl false elt (upd ρ k v) σ) items (lockV σ itv))) fun r => mkL mt r.1 (unlockV σ itv r.2)
termination_by structural e => e
noncomputable def evs (P : Prog) (cl : Cl) (hd : Bool) : List E → Rho → St → Option (Res (List V) × St)
  | [], _, σ => some (.ok [], σ)
  | e :: r, ρ, σ => bindM (ev P cl hd e ρ σ) fun x σ => bindM (evs P cl hd r ρ σ) fun xs σ => some (.ok (x :: xs), σ)
termination_by structural l => l
noncomputable def evBool (P : Prog) (cl : Cl) (hd : Bool) (isAnd : Bool) : List E → Rho → St → RV
  | [], _, _ => none
  | e :: r, ρ, σ => bindM (ev P cl hd e ρ σ) fun x σ => match r with
      | [] => some (.ok x, σ)
      | _ :: _ => onO (truthV σ x) fun t => if t = isAnd then evBool P cl hd isAnd r ρ σ else some (.ok x, σ)
termination_by structural l => l
end
inductive Fl where
  | next
  | ret (v : V)
  | exc (c : String)
abbrev RS := Option (Fl × Rho × St)
noncomputable def bindE (m : RV) (ρ : Rho) (k : V → St → RS) : RS :=
  match m with
  | none => none
  | some (.exc c, σ) => some (.exc c, ρ, σ)
  | some (.ok a, σ) => k a σ
noncomputable def nextS (o : Option St) (ρ : Rho) : RS := o.map fun σ => (.next, ρ, σ)
noncomputable def bindS (m : RS) (k : Rho → St → RS) : RS :=
  match m with
  | some (.next, ρ, σ) => k ρ σ
  | r => r
noncomputable def loop (f : V → Rho → St → RS) : List V → Rho → St → RS
  | [], ρ, σ => some (.next, ρ, σ)
  | v :: r, ρ, σ => bindS (f v ρ σ) fun ρ σ => loop f r ρ σ
noncomputable def loopEnd (hd : Bool) (σ₁ : St) (v : V) : RS → RS
  | some (.next, ρ, σ) => if hd then none else some (.next, ρ, unlockV σ₁ v σ)
  | some (.ret x, ρ, σ) => some (.ret x, ρ, unlockV σ₁ v σ)
  | _ => none
noncomputable def unbind : RS → RS
  | some (.ret v, _, σ) => some (.ret v, fun _ => none, σ)
  | _ => none
noncomputable def catchS (m : RS) (k : String → Rho → St → RS) : RS := match m with
  | some (.exc x, ρ, σ) => k x ρ σ
  | r => r
mutual
noncomputable def exec (P : Prog) (cl : Cl) (hd dr : Bool) : S → Rho → St → RS
  | .expr e, ρ, σ => bindE (ev P cl hd e ρ σ) ρ fun _ σ => some (.next, ρ, σ)
  | .assign k e, ρ, σ => bindE (ev P cl hd e ρ σ) ρ fun v σ => some (.next, upd ρ k v, σ)
  | .setattr o a e, ρ, σ => bindE (ev P cl hd e ρ σ) ρ fun v σ => bindE (ev P cl hd o ρ σ) ρ fun ov σ => nextS (setattrV ov a v σ) ρ
  | .setidx o i e, ρ, σ => bindE (ev P cl hd e ρ σ) ρ fun v σ => bindE (ev P cl hd o ρ σ) ρ fun ov σ => bindE (ev P cl hd i ρ σ) ρ fun iv σ => nextS (setidxV ov iv v σ) ρ
  | .ite c t f, ρ, σ => bindE (ev P cl hd c ρ σ) ρ fun v σ => onO (truthV σ v) fun b => match b with | true => execs P cl hd dr t ρ σ | false => execs P cl hd dr f ρ σ
  | .for1 k it b, ρ, σ => bindE (ev P cl hd it ρ σ) ρ fun itv σ => onO (itersOf hd σ itv) fun items =>
      loopEnd hd σ itv (loop (fun v ρ σ => execs P cl hd dr b (upd ρ k v) σ) items ρ (lockV σ itv))
  | .for2 k1 k2 it b, ρ, σ => if hd then none else bindE (ev P cl false it ρ σ) ρ fun itv σ => onO (withLst itv some) fun items =>
      loopEnd false σ itv (loop (fun v ρ σ => onO (asg2 k1 k2 v ρ) fun ρ' => execs P cl false dr b ρ' σ) items ρ (lockV σ itv))
  | .ret e, ρ, σ => bindE (ev P cl hd e ρ σ) ρ fun v σ => some (.ret v, ρ, σ)
  | .raise c _, ρ, σ => if hd then none else if dr then some (.exc c, ρ, σ) else none
  | .tryx b c k h, ρ, σ => if hd then none else catchS (execs P cl false false b ρ σ) fun x ρ σ => if P.sub x c then unbind (execs P cl true false h (upd ρ k (.exc x)) σ) else none
termination_by structural s => s
noncomputable def execs (P : Prog) (cl : Cl) (hd dr : Bool) : List S → Rho → St → RS
  | [], ρ, σ => some (.next, ρ, σ)
  | s :: r, ρ, σ => bindS (exec P cl hd dr s ρ σ) fun ρ σ => execs P cl hd dr r ρ σ
termination_by structural l => l
end
noncomputable def bindP {κ α : Type} [DecidableEq κ] (ps : List κ) (as : List α) (kws : List (κ × α)) (ds : List (Option α)) : Option (List α) :=
  if as.length ≤ ps.length then mapO (fun pj => (as[pj.2]?).or ((lk kws pj.1).or ((ds[pj.2]?).join))) ps.zipIdx else none
noncomputable def dfls {α : Type} (m : Nat) (ds : List α) : List (Option α) := List.replicate (m - ds.length) none ++ ds.map some
noncomputable def Fn.dflts (f : Fn) : List (Option V) := dfls f.params.length f.defaults
noncomputable def rhoOf (vs : List V) : Rho := fun k => vs[k]?
noncomputable def fin : RS → RV
  | some (.ret v, _, σ') => some (.ok v, σ')
  | some (.next, _, σ') => some (.ok .none, σ')
  | some (.exc c, _, σ') => some (.exc c, σ')
  | none => none
noncomputable def kwOk (fn : Fn) (args : List V) (kws : List (String × V)) : Bool := kws.all (fun k => (fn.params.drop args.length).contains k.1) && decide (kws.map (·.1)).Nodup
noncomputable def run (P : Prog) : Nat → Cl
  | 0 => fun _ _ _ _ _ _ => none
  | n + 1 => fun hd c f args kws σ => onO (P.fns c f) fun fn => if kwOk fn args kws then onO (bindP fn.params args kws fn.dflts) fun vs => fin (execs P (run P n) hd true fn.body (rhoOf vs) σ) else none
structure Com where
  fns : List String
  cls : List String
  excs : List String
  attrs : List String
  bifs : List String
  gis : List (String × Int)
structure Ent where
  cc : String
  m : String
  fn : Fn
  vis : List (Str × Nat)
noncomputable def tblFns (T : List Ent) (c m : String) : Option Fn := (T.find? fun e => e.cc == c && e.m == m).map (·.fn)
noncomputable def progOf (T : List Ent) (sub : String → String → Bool) : Prog := ⟨tblFns T, sub⟩
end Lw
namespace Lw
open PySem PySem.W PyProof.Rows
structure Cxt where
  scope : Scope
  vis : List (Str × Nat)
  inComp : Bool
  fns : List String
  cls : List String
  excs : List String
  attrs : List String
  bifs : List String
  gis : List (String × Int)
noncomputable def tyName : Ty → String
  | .int => "int" | .bool => "bool" | .str => "str" | .tuple => "tuple" | .list => "list" | .valueError => "ValueError" | .own c => c
noncomputable def bopOf : BOp → Operator
  | .add => .Add | .sub => .Sub | .mul => .Mult | .fdiv => .FloorDiv | .mod => .Mod | .pow => .Pow
noncomputable def copOf : COp → CmpOp
  | .lt => .Lt | .le => .LtE | .gt => .Gt | .ge => .GtE | .eq => .Eq | .ne => .NotEq | .isin => .In | .notin => .NotIn
noncomputable def bfName : Bf → String
  | .len => "len" | .sorted _ _ => "sorted" | .range => "range" | .min => "min" | .max => "max" | .abs => "abs" | .int => "int" | .list => "list" | .tuple => "tuple"
noncomputable def bmName : Bm → String
  | .append => "append" | .clear => "clear" | .pop => "pop" | .get => "get" | .startswith => "startswith" | .join => "join"
noncomputable def Cxt.isLocal (c : Cxt) (x : Str) : Bool := match c.scope.names.lookup x with
  | some .local => true | some .cell => true | some .free => true | _ => false
noncomputable def Cxt.isGlob (c : Cxt) (x : Str) : Bool := c.scope.names.lookup x == some .globalImplicit && !(x == ("__debug__" : Str))
noncomputable def compScope (s : Scope) : Scope := { s with names := s.names.map fun (n, k) => if k == .free then (n, .cell) else (n, k) }
noncomputable def Cxt.inner (c : Cxt) (s : Scope) (x : Str) (k : Nat) : Cxt :=
  { c with scope := compScope s, vis := (x, k) :: c.vis.filter (fun p => s.names.lookup p.1 == some .free), inComp := true }
noncomputable def Cxt.compOk (c : Cxt) (s : Scope) (x : Str) (k : Nat) : Bool :=
  !c.inComp && s.kind == .function && c.scope.kind == .function && !s.isGenerator && !s.isCoroutine &&
  s.names.lookup x == some .local && !(x == (".0" : Str)) && c.vis.all (fun p => p.2 != k) &&
  s.names.all (fun (n, kd) => (kd == .local && (n == x || n == (".0" : Str))) || (kd == .free && c.scope.names.lookup n == some .cell) || kd == .globalImplicit) &&
  decide (s.names.map (·.1)).Nodup
noncomputable def tagE : Expr → Nat
  | .Slice .. => 1
  | .Set .. => 2
  | .Starred .. => 3
  | .ListComp .. => 4
  | .SetComp .. => 4
  | .DictComp .. => 4
  | _ => 0
noncomputable def notSliceE (e : Expr) : Bool := tagE e != 1
noncomputable def notSetE (e : Expr) : Bool := tagE e != 2
noncomputable def notStar (e : Expr) : Bool := tagE e != 3
noncomputable def notComp (e : Expr) : Bool := tagE e != 4
noncomputable def notSuper : Expr → Bool
  | .Call (.Name id _) _ _ _ => !(id == ("super" : Str))
  | _ => true
noncomputable def tyOk (c : Cxt) (t : Ty) : Bool := match t with | .own k => c.cls.contains k || c.excs.contains k | _ => c.bifs.contains (tyName t)
noncomputable def isCNone : E → Bool
  | .cNone => true
  | _ => false
noncomputable def isCTrue : E → Bool
  | .cBool true => true
  | _ => false
noncomputable def isComp : E → Bool
  | .comp _ _ _ _ _ => true
  | _ => false
noncomputable def onB {α : Type} (o : Option α) (f : α → Bool) : Bool := match o with
  | some a => f a
  | none => false
noncomputable def optB {α : Type} (o : Option α) (d : Bool) (f : α → Bool) : Bool := match o with
  | some a => f a
  | none => d
noncomputable def one {α : Type} : List α → Option α
  | [a] => some a
  | _ => none
noncomputable def two {α : Type} : List α → Option (α × α)
  | [a, b] => some (a, b)
  | _ => none
noncomputable def constX : Expr → Option Const
  | .Constant k _ _ => some k
  | _ => none
noncomputable def isNoneC : Const → Bool
  | .none => true
  | _ => false
noncomputable def boolC : Const → Option Bool
  | .bool b => some b
  | _ => none
noncomputable def intC : Const → Option Int
  | .int i => some i
  | _ => none
noncomputable def strC : Const → Option Str
  | .str i => some i
  | _ => none
noncomputable def nameX : Expr → Option Str
  | .Name x _ => some x
  | _ => none
noncomputable def binX : Expr → Option (Operator × Expr × Expr)
  | .BinOp l o r _ => some (o, l, r)
  | _ => none
noncomputable def cmpX : Expr → Option (Expr × List CmpOp × List Expr)
  | .Compare l os rs _ => some (l, os, rs)
  | _ => none
noncomputable def boolX : Expr → Option (BoolOp × List Expr)
  | .BoolOp o vs _ => some (o, vs)
  | _ => none
noncomputable def unX : Expr → Option (UnaryOp × Expr)
  | .UnaryOp o v _ => some (o, v)
  | _ => none
structure CallX where
  f : Expr
  as : List Expr
  ks : List Keyword
  pos : Pos
noncomputable def callX : Expr → Option CallX
  | .Call f as ks p => some ⟨f, as, ks, p⟩
  | _ => none
noncomputable def attrX : Expr → Option (Expr × Str × Pos)
  | .Attribute o x p => some (o, x, p)
  | _ => none
noncomputable def subX : Expr → Option (Expr × Expr)
  | .Subscript o i _ => some (o, i)
  | _ => none
noncomputable def sliceX : Expr → Option (Option Expr × Option Expr × Option Expr)
  | .Slice a b d _ => some (a, b, d)
  | _ => none
noncomputable def listX : Expr → Option (List Expr)
  | .List vs _ => some vs
  | _ => none
noncomputable def tupX : Expr → Option (List Expr)
  | .Tuple vs _ _ => some vs
  | _ => none
noncomputable def dictX : Expr → Option (List (Option Expr) × List Expr)
  | .Dict ks vs _ => some (ks, vs)
  | _ => none
noncomputable def compX : Expr → Option (Expr × List Comprehension × Scope)
  | .ListComp e gs s _ => some (e, gs, s)
  | _ => none
noncomputable def minus1 (e : Expr) : Bool := onB (unX e) fun t => t.1 == .USub && onB (constX t.2) fun k => onB (intC k) fun i => i == 1
noncomputable def okKeys : List Str → List (Option Expr) → Bool
  | [], [] => true
  | k :: ks, e :: r => onB e (fun e => onB (constX e) fun c => onB (strC c) fun s => s == k) && okKeys ks r
  | _, _ => false
mutual
noncomputable def okE (c : Cxt) : E → Expr → Bool
  | .cNone, x => onB (constX x) isNoneC
  | .cBool b, x => onB (constX x) fun k => onB (boolC k) fun b' => b' == b
  | .cInt i, x => onB (constX x) fun k => onB (intC k) fun b' => b' == i
  | .cStr s, x => onB (constX x) fun k => onB (strC k) fun b' => b' == s && sOk s
  | .var k, x => onB (nameX x) fun y => c.vis.lookup y == some k && (c.isLocal y && (!(y == ("__debug__" : Str)) && !(y == ("__classdict__" : Str))))
  | .gint g i, x => onB (nameX x) fun y => y == Str.ofString g && (c.isGlob y && c.gis.contains (g, i))
  | .bin op a b, x => onB (binX x) fun t => t.1 == bopOf op && (okE c a t.2.1 && okE c b t.2.2)
  | .cmp op a b, x => onB (cmpX x) fun t => onB (one t.2.1) fun o => onB (one t.2.2) fun r => o == copOf op && (notSetE r && (okE c a t.1 && okE c b r))
  | .chain a b d, x => onB (cmpX x) fun t => onB (two t.2.1) fun o => onB (two t.2.2) fun r => (o.1 == .LtE && o.2 == .LtE) && (notSetE r.2 && (okE c a t.1 && (okE c b r.1 && okE c d r.2)))
  | .isNone a, x => onB (cmpX x) fun t => onB (one t.2.1) fun o => onB (one t.2.2) fun r => o == .Is && (onB (constX r) isNoneC && okE c a t.1)
  | .notNone a, x => onB (cmpX x) fun t => onB (one t.2.1) fun o => onB (one t.2.2) fun r => o == .IsNot && (onB (constX r) isNoneC && okE c a t.1)
  | .bool isAnd es, x => onB (boolX x) fun t => (t.1 == (if isAnd then .And else .Or)) && okEs c es t.2
  | .not a, x => onB (unX x) fun t => t.1 == .Not && okE c a t.2
  | .neg a, x => onB (unX x) fun t => t.1 == .USub && okE c a t.2
  | .fcall f args, x => onB (callX x) fun t => onB (nameX t.f) fun y => y == Str.ofString f && (c.isGlob y && (c.fns.contains f && (t.ks.isEmpty && okEs c args t.as)))
  | .new k args kwn kwe, x => onB (callX x) fun t => onB (nameX t.f) fun y => y == Str.ofString k && (c.isGlob y && (c.cls.contains k && (okEs c args t.as && okKs c kwn kwe t.ks)))
  | .mcall o m args kwn kwe, x => onB (callX x) fun t => onB (attrX t.f) fun u => u.2.1 == Str.ofString m && (notSuper u.1 && (u.2.2.endLine == t.pos.line && (decide (t.as.length < 10) && (decide (t.ks.length < 5) && (okE c o u.1 && (okEs c args t.as && okKs c kwn kwe t.ks))))))
  | .bcall f args, x => onB (callX x) fun t => onB (nameX t.f) fun y => y == Str.ofString (bfName f) && (c.isGlob y && (c.bifs.contains (bfName f) && ((!f.pairs || c.bifs.contains "sorted2") && (t.ks.isEmpty && okEs c args t.as))))
  | .bmeth m o args, x => onB (callX x) fun t => onB (attrX t.f) fun u => u.2.1 == Str.ofString (bmName m) && (notSuper u.1 && (u.2.2.endLine == t.pos.line && (decide (t.as.length < 10) && (t.ks.isEmpty && (okE c o u.1 && okEs c args t.as)))))
  | .isinst a t, x => onB (callX x) fun u => onB (nameX u.f) fun y => onB (two u.as) fun v => onB (nameX v.2) fun z => y == ("isinstance" : Str) && (c.isGlob y && (c.bifs.contains "isinstance" && (notStar v.1 && (z == Str.ofString (tyName t) && (c.isGlob z && (tyOk c t && (u.ks.isEmpty && okE c a v.1)))))))
  | .attr o a, x => onB (attrX x) fun t => t.2.1 == Str.ofString a && (c.attrs.contains a && (notSuper t.1 && okE c o t.1))
  | .idx o i, x => onB (subX x) fun t => notSliceE t.2 && (okE c o t.1 && okE c i t.2)
  | .slice _ o lo hi, x => onB (subX x) fun t => onB (sliceX t.2) fun u => u.2.2.isNone && (okE c o t.1 && (optB u.1 (isCNone lo) (fun e => okE c lo e) && optB u.2.1 (isCNone hi) fun e => okE c hi e))
  | .rev _ o, x => onB (subX x) fun t => onB (sliceX t.2) fun u => u.1.isNone && (u.2.1.isNone && (onB u.2.2 minus1 && okE c o t.1))
  | .list _ es, x => onB (listX x) fun vs => okEs c es vs
  | .tup es, x => onB (tupX x) fun vs => okEs c es vs
  | .dict0 _, x => onB (dictX x) fun t => t.1.isEmpty && t.2.isEmpty
  | .dict ks vs, x => onB (dictX x) fun t => !ks.isEmpty && (decide (ks.length < 10) && (t.2.length == ks.length && (okKeys ks t.1 && (ks.all sOk && (decide ks.Nodup && okEs c vs t.2)))))
  | .comp _ elt k it cond, x => onB (compX x) fun t => onB (one t.2.1) fun g => onB (nameX g.target) fun y => g.is_async == 0 && (notSetE g.iter && (c.compOk t.2.2 y k && (okE c it g.iter && (okE (c.inner t.2.2 y k) elt t.1 &&
      ((g.ifs.isEmpty && isCTrue cond) || onB (one g.ifs) fun e => okE (c.inner t.2.2 y k) cond e)))))
termination_by structural e => e
noncomputable def okEs (c : Cxt) : List E → List Expr → Bool
  | [], [] => true
  | a :: r, e :: es => notStar e && (okE c a e && okEs c r es)
  | _, _ => false
termination_by structural l => l
noncomputable def okKs (c : Cxt) : List String → List E → List Keyword → Bool
  | [], [], [] => true
  | n :: ns, a :: r, k :: ks => (k.arg == some (Str.ofString n)) && (okE c a k.value && okKs c ns r ks)
  | _, _, _ => false
termination_by structural _ l => l
end
noncomputable def exprX : Stmt → Option Expr
  | .Expr v _ => some v
  | _ => none
noncomputable def assignX : Stmt → Option (List Expr × Expr)
  | .Assign ts v _ => some (ts, v)
  | _ => none
noncomputable def ifX : Stmt → Option (Expr × List Stmt × List Stmt)
  | .If e a b _ => some (e, a, b)
  | _ => none
structure ForX where
  t : Expr
  i : Expr
  b : List Stmt
  e : List Stmt
noncomputable def forX : Stmt → Option ForX
  | .For t i b e _ => some ⟨t, i, b, e⟩
  | _ => none
noncomputable def retX : Stmt → Option (Option Expr)
  | .Return v _ => some v
  | _ => none
noncomputable def Cxt.tgt (c : Cxt) (x : Str) (k : Nat) : Bool := c.vis.lookup x == some k && (c.scope.names.lookup x == some .local || c.scope.names.lookup x == some .cell)
noncomputable def Cxt.tgtL (c : Cxt) (x : Str) (k : Nat) : Bool := c.vis.lookup x == some k && c.scope.names.lookup x == some .local
noncomputable def raiseX : Stmt → Option Expr
  | .Raise (some e) none _ => some e
  | _ => none
noncomputable def tryX : Stmt → Option (List Stmt × List ExceptHandler)
  | .Try b hs [] [] _ => some (b, hs)
  | _ => none
structure HandX where
  t : Expr
  n : Str
  b : List Stmt
noncomputable def handX : List ExceptHandler → Option HandX
  | [.ExceptHandler (some t) (some n) b _] => some ⟨t, n, b⟩
  | _ => none
mutual
noncomputable def okS (c : Cxt) : S → Stmt → Bool
  | .expr e, s => onB (exprX s) fun v => notComp v && okE c e v
  | .assign k e, s => onB (assignX s) fun t => onB (one t.1) fun g => onB (nameX g) fun x => c.tgt x k && ((notComp t.2 || isComp e) && okE c e t.2)
  | .setattr o a e, s => onB (assignX s) fun t => onB (one t.1) fun g => onB (attrX g) fun u => u.2.1 == Str.ofString a && (c.attrs.contains a && (notComp t.2 && (okE c o u.1 && okE c e t.2)))
  | .setidx o i e, s => onB (assignX s) fun t => onB (one t.1) fun g => onB (subX g) fun u => notComp t.2 && (okE c o u.1 && (okE c i u.2 && okE c e t.2))
  | .ite t a b, s => onB (ifX s) fun u => okE c t u.1 && (okSs c a u.2.1 && okSs c b u.2.2)
  | .for1 k it b, s => onB (forX s) fun u => onB (nameX u.t) fun x => c.tgt x k && (notSetE u.i && (u.e.isEmpty && (okE c it u.i && okSs c b u.b)))
  | .for2 k1 k2 it b, s => onB (forX s) fun u => onB (tupX u.t) fun ts => onB (two ts) fun g => onB (nameX g.1) fun x => onB (nameX g.2) fun y => c.tgtL x k1 && (c.tgtL y k2 && (notSetE u.i && (u.e.isEmpty && (okE c it u.i && okSs c b u.b))))
  | .ret e, s => onB (retX s) fun v => onB v fun v => okE c e v
  | .raise e m, s => onB (raiseX s) fun x => onB (callX x) fun t => onB (nameX t.f) fun y => onB (one t.as) fun a => onB (constX a) fun k => onB (strC k) fun u => y == Str.ofString e && (c.isGlob y && (c.excs.contains e && (t.ks.isEmpty && (u == m && sOk m))))
  | .tryx b e k h, s => onB (tryX s) fun t => onB (handX t.2) fun u => onB (nameX u.t) fun y => y == Str.ofString e && (c.isGlob y && (c.excs.contains e && (c.tgtL u.n k && (!u.b.isEmpty && (okSs c b t.1 && okSs c h u.b)))))
termination_by structural s => s
noncomputable def okSs (c : Cxt) : List S → List Stmt → Bool
  | [], [] => true
  | a :: r, s :: ss => okS c a s && okSs c r ss
  | _, _ => false
termination_by structural l => l
end
end Lw
namespace Lw
open PySem PySem.W PyProof.Rows
structure Gl where
  prog : Program
  ω : World
  K : Frag
  mg : Str → Option Value
  mb : Str → Option Value
  P : Prog
  com : Com
abbrev Gl.M (G : Gl) : Model := model G.prog G.ω
inductive Own where
  | fix (o : Obj)
  | own (o : Obj)
  | fr (o : Obj)
  | obj (i : Nat)
  | lk (i : Nat) (o : Obj)
structure Wd where
  m : Addr → Option Own
  φ : List (Addr × Addr)
structure Wd.Le (a b : Wd) : Prop where
  m : ∀ x o, a.m x = some o → b.m x = some o
  φ : a.φ <+: b.φ
structure Wd.Sub (a b : Wd) : Prop where
  m : ∀ x o, a.m x = some (.fix o) → b.m x = some (.fix o)
  φ : a.φ <+: b.φ
theorem Wd.Le.refl (a : Wd) : a.Le a := ⟨fun _ _ h => h, List.prefix_refl _⟩
theorem Wd.Le.trans {a b c : Wd} (h : a.Le b) (k : b.Le c) : a.Le c := ⟨fun x o e => k.m x o (h.m x o e), h.φ.trans k.φ⟩
theorem Wd.Le.sub {a b : Wd} (h : a.Le b) : a.Sub b := ⟨fun x o e => h.m x _ e, h.φ⟩
theorem prefix_get {α : Type} {a b : List α} (h : a <+: b) {i : Nat} {p : α} (e : a[i]? = some p) : b[i]? = some p := by
  obtain ⟨t, ht⟩ := h
  rw [← ht, List.getElem?_append_left (List.getElem?_eq_some_iff.mp e).1]
  exact e
noncomputable def clsAt (K : Frag) (c : String) : Option Addr := match nsIn K mainGlobals (Str.ofString c) with
  | some (some (.ref a)) => some a
  | _ => none
noncomputable def excNew : String := "ValueError.__new__"
noncomputable def excBm : List Value := [.type "ValueError", .type "Exception", .type "BaseException", .type "object"]
noncomputable def lacks (K : Frag) (N : Addr) (x : Str) : Bool := match K.lookup N with
  | some ⟨_, _, .dict es _, _⟩ => es.all (fun e => match e.key with | .str _ _ => true | _ => false) && (nsFind es x).isNone
  | _ => false
noncomputable def excTl (K : Frag) : List Value → Bool
  | .ref A :: r => (match clsIn K A with | some cd => lacks K cd.ns "__init__" | none => false) && decide (r = excBm)
  | l => decide (l = excBm)
noncomputable def excObj (K : Frag) (C : Addr) : Bool := match K.lookup C with
  | some ⟨c, _, .cls cd, sl⟩ => decide (c = .type "type") && (decide (cd.mro.head? = some (.ref C)) && (!cd.hasDel && (decide (sl.size = 6) && (decide (sl[4]? = some (some (.builtin excNew))) && (lacks K cd.ns "__init__" && excTl K cd.mro.tail)))))
  | _ => false
noncomputable def excAtt (K : Frag) (C : Addr) : Bool :=
  findIn K (.ref C) "__getattribute__" == some (some (.builtin "BaseException.__getattribute__")) && (findIn K (.ref C) "__getattr__" == some none && (findIn K (.ref C) "__class__" == some (some (.builtin "object.__class__")) &&
  (specialIn K (.builtin "object.__class__") "__get__" == some (some (.builtin "getset_descriptor.__get__")) && (takesIn K (.builtin "object.__class__") == some true && (mroIn K C (.type "object") == some true && mroIn K C (.type "BaseException") == some true)))))
noncomputable def excOk (K : Frag) (sub : String → String → Bool) (ds : List String) (x : String) : Bool := match clsAt K x with
  | some C => excObj K C && (excAtt K C && (kitOne K (.ref C) (.type "ValueError") == some true && ds.all fun d => match clsAt K d with | some D => kitOne K (.ref C) (.ref D) == some (sub x d) && mroIn K C (.ref D) == some (sub x d) | none => false))
  | none => false
noncomputable def RangeObj (o : Obj) (a b c : Int) : Prop := ∃ t u v, o = { cls := .type "range", data := .fields #[.int a t, .int b u, .int c v] }
noncomputable def ExcCls (G : Gl) (x : String) (C : Addr) : Prop := x ∈ G.com.excs ∧ clsAt G.K x = some C
inductive All2 {α β : Type} (R : α → β → Prop) : List α → List β → Prop
  | nil : All2 R [] []
  | cons {a : α} {b : β} {as : List α} {bs : List β} : R a b → All2 R as bs → All2 R (a :: as) (b :: bs)
section
variable {α β : Type} {R R' : α → β → Prop} {as as' : List α} {bs bs' : List β}
theorem All2.mono (h : All2 R as bs) (k : ∀ a b, R a b → R' a b) : All2 R' as bs := by
  induction h with
  | nil => exact .nil
  | cons a _ ih => exact .cons (k _ _ a) ih
theorem All2.length (h : All2 R as bs) : as.length = bs.length := by
  induction h with
  | nil => rfl
  | cons _ _ ih => exact congrArg (· + 1) ih
theorem All2.get (h : All2 R as bs) : ∀ {i : Nat} {a : α}, as[i]? = some a → ∃ b, bs[i]? = some b ∧ R a b := by
  induction h with
  | nil => exact fun h => nomatch h
  | cons r _ ih =>
    intro i
    cases i with
    | zero => exact fun h => ⟨_, rfl, Option.some.inj h ▸ r⟩
    | succ i => exact fun h => ih (i := i) h
theorem All2.append (h : All2 R as bs) (k : All2 R as' bs') : All2 R (as ++ as') (bs ++ bs') := by
  induction h with
  | nil => exact k
  | cons a _ ih => exact .cons a ih
theorem All2.take (h : All2 R as bs) : ∀ n, All2 R (as.take n) (bs.take n) := by
  induction h with
  | nil => intro n; cases n <;> exact .nil
  | cons a _ ih => intro n; cases n with
    | zero => exact .nil
    | succ n => exact .cons a (ih n)
theorem All2.drop (h : All2 R as bs) : ∀ n, All2 R (as.drop n) (bs.drop n) := by
  induction h with
  | nil => intro n; cases n <;> exact .nil
  | cons a r ih => intro n; cases n with
    | zero => exact .cons a r
    | succ n => exact ih n
end
inductive VR (G : Gl) (w : Wd) : V → Value → Prop
  | none : VR G w .none .none
  | bool (b : Bool) : VR G w (.bool b) (.bool b)
  | int (i : Int) (t : Tok) : VR G w (.int i) (.int i t)
  | str (s : Str) (t : Tok) : sOk s = true → VR G w (.str s) (.str s t)
  | tup {vs : List V} {a : Addr} {o : Obj} {xs : Array Value} {n : Nat} : w.m a = some (.fix o) → o.cls = .type "tuple" → o.data = .seq xs n → All2 (VR G w) vs xs.toList → vs.length ≤ lim → VR G w (.tup vs) (.ref a)
  | lst {vs : List V} {a : Addr} {o : Obj} {xs : Array Value} {n : Nat} : w.m a = some (.fix o) → o.cls = .type "list" → o.data = .seq xs n → All2 (VR G w) vs xs.toList → vs.length ≤ lim → VR G w (.lst vs) (.ref a)
  | rng {x y z : Int} {a : Addr} {o : Obj} : w.m a = some (.fix o) → RangeObj o x y z → VR G w (.rng x y z) (.ref a)
  | ref {i : Nat} {p : Addr × Addr} : w.φ[i]? = some p → VR G w (.ref i) (.ref p.1)
  | exc {c : String} {a C : Addr} {o : Obj} : w.m a = some (.fix o) → o.cls = .ref C → notCls o = true → ExcCls G c C → VR G w (.exc c) (.ref a)
abbrev VRs (G : Gl) (w : Wd) : List V → List Value → Prop := All2 (VR G w)
theorem VR.mono {G : Gl} {w w' : Wd} (h : w.Sub w') {v : V} {x : Value} (hv : VR G w v x) : VR G w' v x :=
  VR.rec (motive_1 := fun v x _ => VR G w' v x) (motive_2 := fun v x _ => VRs G w' v x) .none (fun b => .bool b) (fun i t => .int i t) (fun s t k => .str s t k) (fun e c d _ l ih => .tup (h.m _ _ e) c d ih l) (fun e c d _ l ih => .lst (h.m _ _ e) c d ih l) (fun e r => .rng (h.m _ _ e) r) (fun e => .ref (prefix_get h.φ e)) (fun e c n k => .exc (h.m _ _ e) c n k) .nil (fun _ _ a b => .cons a b) hv
theorem VRs.mono {G : Gl} {w w' : Wd} (h : w.Sub w') {v : List V} {x : List Value} (hv : VRs G w v x) : VRs G w' v x := All2.mono hv fun _ _ q => q.mono h
abbrev ER {κ : Type} (G : Gl) (w : Wd) : List (κ × V) → List (κ × Value) → Prop := All2 fun e f => f.1 = e.1 ∧ VR G w e.2 f.2
abbrev FsR (G : Gl) (w : Wd) : List (String × V) → List DictEntry → Prop := All2 fun e f => ∃ t x, f = ⟨PyData.keyHash G.ω.params (Str.ofString e.1), .str (Str.ofString e.1) t, x⟩ ∧ VR G w e.2 x
theorem ER.mono {κ : Type} {G : Gl} {w w' : Wd} (h : w.Sub w') {es : List (κ × V)} {kvs : List (κ × Value)} (r : ER G w es kvs) : ER G w' es kvs := All2.mono r fun _ _ q => ⟨q.1, q.2.mono h⟩
theorem FsR.mono {G : Gl} {w w' : Wd} (h : w.Sub w') {fs : List (String × V)} {es : List DictEntry} (r : FsR G w fs es) : FsR G w' fs es := All2.mono r fun _ _ ⟨t, x, e, q⟩ => ⟨t, x, e, q.mono h⟩
theorem no {α : Type} {z : α} {C : Prop} (h : none = some z) : C := by cases h
theorem noB {C : Prop} (h : false = true) : C := by cases h
abbrev listObj (ys : Array Value) (e : Nat) : Obj := ⟨.type "list", none, .seq ys e, #[]⟩
noncomputable def lkOwn (lk : Bool) (i : Nat) (o : Obj) : Own := if lk then .lk i o else .obj i
noncomputable def DRel {κ : Type} [DecidableEq κ] (G : Gl) (w : Wd) (h : Heap) (i : Nat) (p : Addr × Addr) (knd : PySem.KeyKind G.prog G.ω κ) (lk : Bool) (es : List (κ × V)) : Prop :=
  p.2 = p.1 ∧ ∃ o kvs, h.get? p.1 = some o ∧ w.m p.1 = some (lkOwn lk i o) ∧ o.IsDictOf knd kvs ∧ ER G w es kvs ∧ es.length ≤ lim ∧ p.1 ≠ sysModules
noncomputable def ORel (G : Gl) (w : Wd) (h : Heap) (i : Nat) (p : Addr × Addr) : O → Prop
  | .list lk vs => p.2 = p.1 ∧ ∃ xs n, h.get? p.1 = some (listObj xs n) ∧ w.m p.1 = some (lkOwn lk i (listObj xs n)) ∧ VRs G w vs xs.toList ∧ vs.length ≤ lim
  | .di lk es => DRel G w h i p (intKind G.prog G.ω) lk es
  | .ds lk es => DRel G w h i p (strKind G.prog G.ω) lk es ∧ ∀ kv ∈ es, sOk kv.1 = true
  | .inst cn fs => w.m p.2 = some (.obj i) ∧ ∃ C es n, h.get? p.1 = some (instObj C p.2) ∧ w.m p.1 = some (.obj i) ∧ h.get? p.2 = some (dictOf es n) ∧ p.1 ≠ p.2 ∧ cn ∈ G.com.cls ∧ clsAt G.K cn = some C ∧ FsR G w fs es
noncomputable def OwnOk (h : Heap) (x : Addr) : Own → Prop
  | .fix o => h.get? x = some o
  | .own o => h.get? x = some o
  | .fr o => (∀ vs, o.data ≠ .fields vs) ∧ ∃ sl, h.get? x = some { o with slots := sl }
  | .obj _ => ∃ o, h.get? x = some o
  | .lk _ o => h.get? x = some o
structure SR (G : Gl) (w : Wd) (σ : St) (h : Heap) : Prop where
  m : ∀ x o, w.m x = some o → OwnOk h x o
  n : σ.n = w.φ.length
  obj : ∀ (i : Nat) (o : O), σ.get i = some o → ∃ p, w.φ[i]? = some p ∧ ORel G w h i p o
noncomputable def Wd.set (w : Wd) (a : Addr) (o : Own) : Wd := { w with m := fun x => if x = a then some o else w.m x }
noncomputable def Wd.new (w : Wd) (p : Addr × Addr) : Wd := { m := fun x => if x = p.1 ∨ x = p.2 then some (.obj w.φ.length) else w.m x, φ := w.φ ++ [p] }
section
variable {G : Gl} {w w' : Wd} {σ : St} {h h' : Heap} {p : Addr × Addr} {o : O} {i : Nat} {x : Own} {a : Addr}
theorem OwnOk.keep {o : Own} (r : OwnOk h a o) (k : ∀ y, h.get? a = some y → h'.get? a = some y) : OwnOk h' a o := by
  cases o with
  | fix o => exact k _ r
  | own o => exact k _ r
  | fr o => obtain ⟨q, sl, e⟩ := r; exact ⟨q, sl, k _ e⟩
  | obj i => obtain ⟨o, e⟩ := r; exact ⟨o, k _ e⟩
  | lk i o => exact k _ r
theorem OwnOk.some (r : OwnOk h a x) : ∃ o, h.get? a = some o := by
  cases x with
  | fix o => exact ⟨_, r⟩
  | own o => exact ⟨_, r⟩
  | fr o => obtain ⟨_, sl, e⟩ := r; exact ⟨_, e⟩
  | obj i => exact r
  | lk i o => exact ⟨_, r⟩
theorem lkOwn_ne {lk : Bool} {i j : Nat} {o : Obj} (hij : i ≠ j) : lkOwn lk i o ≠ .obj j := by
  cases lk <;> intro e <;> cases e
  exact hij rfl
theorem DRel.held {κ : Type} [DecidableEq κ] {knd : PySem.KeyKind G.prog G.ω κ} {lk : Bool} {es : List (κ × V)} (r : DRel G w h i p knd lk es) : (∃ lk ob, w.m p.1 = some (lkOwn lk i ob)) ∧ ∃ lk ob, w.m p.2 = some (lkOwn lk i ob) := by
  obtain ⟨e, xs, n, _, b, _⟩ := r; rw [e]; exact ⟨⟨_, _, b⟩, _, _, b⟩
theorem DRel.keep {κ : Type} [DecidableEq κ] {knd : PySem.KeyKind G.prog G.ω κ} {lk : Bool} {es : List (κ × V)} (hw : w.Sub w') (h1 : w'.m p.1 = w.m p.1) (k : ∀ b y, (b = p.1 ∨ b = p.2) → h.get? b = some y → h'.get? b = some y) (r : DRel G w h i p knd lk es) : DRel G w' h' i p knd lk es := by
  obtain ⟨e, ob, kvs, a, b, c, d, f⟩ := r
  exact ⟨e, ob, kvs, k _ _ (.inl rfl) a, h1.trans b, c, d.mono hw, f⟩
theorem ORel.held (r : ORel G w h i p o) : (∃ lk ob, w.m p.1 = some (lkOwn lk i ob)) ∧ ∃ lk ob, w.m p.2 = some (lkOwn lk i ob) := by
  cases o with
  | list lk vs => obtain ⟨e, xs, n, _, b, _⟩ := r; rw [e]; exact ⟨⟨_, _, b⟩, _, _, b⟩
  | di lk es => exact r.held
  | ds lk es => exact r.1.held
  | inst cn fs => obtain ⟨e, C, es, n, _, b, _⟩ := r; exact ⟨⟨false, dictOf [] 0, b⟩, false, dictOf [] 0, e⟩
theorem ORel.keep (hw : w.Sub w') (h1 : w'.m p.1 = w.m p.1) (h2 : w'.m p.2 = w.m p.2) (k : ∀ b y, (b = p.1 ∨ b = p.2) → h.get? b = some y → h'.get? b = some y) (r : ORel G w h i p o) : ORel G w' h' i p o := by
  cases o with
  | list lk vs =>
    obtain ⟨e, xs, n, a, b, c, d⟩ := r
    exact ⟨e, xs, n, k _ _ (.inl rfl) a, h1.trans b, c.mono hw, d⟩
  | di lk es => exact r.keep hw h1 k
  | ds lk es => exact ⟨r.1.keep hw h1 k, r.2⟩
  | inst cn fs =>
    obtain ⟨e, C, es, n, a, b, d, f, g, x, y⟩ := r
    exact ⟨h2.trans e, C, es, n, k _ _ (.inl rfl) a, h1.trans b, k _ _ (.inr rfl) d, f, g, x, y.mono hw⟩
theorem SR.keeps (S : SR G w σ h) (k : ∀ b o, h.get? b = some o → h'.get? b = some o) : SR G w σ h' :=
  ⟨fun x o e => (S.m x o e).keep fun _ q => k _ _ q, S.n, fun i o e => let ⟨p, a, r⟩ := S.obj i o e; ⟨p, a, r.keep (Wd.Le.refl _).sub rfl rfl fun _ _ _ q => k _ _ q⟩⟩
theorem SR.fresh (S : SR G w σ h) (hn : h.get? a = none) : w.m a = none := by
  cases e : w.m a with
  | none => rfl
  | some o => obtain ⟨y, q⟩ := (S.m _ _ e).some; rw [hn] at q; cases q
theorem Wd.set_at : (w.set a x).m a = some x := if_pos rfl
theorem Wd.set_ne {b : Addr} (hb : b ≠ a) : (w.set a x).m b = w.m b := if_neg hb
theorem Wd.le_set (hn : w.m a = none) : w.Le (w.set a x) := ⟨fun b o e => (Wd.set_ne fun q => by rw [q, hn] at e; cases e).trans e, List.prefix_refl _⟩
noncomputable def Wd.Unheld (w : Wd) (a : Addr) : Prop := ∀ lk i ob, w.m a ≠ some (lkOwn lk i ob)
theorem Wd.unheld_none (h : w.m a = none) : w.Unheld a := fun lk i ob e => by rw [h] at e; cases e
theorem Wd.unheld_own {o : Obj} (h : w.m a = some (.own o)) : w.Unheld a := fun lk i ob e => by rw [h] at e; cases lk <;> cases e
theorem Wd.unheld_fr {o : Obj} (h : w.m a = some (.fr o)) : w.Unheld a := fun lk i ob e => by rw [h] at e; cases lk <;> cases e
theorem ORel.apart (r : ORel G w h i p o) (hn : w.Unheld a) : p.1 ≠ a ∧ p.2 ≠ a :=
  let ⟨⟨l1, o1, e1⟩, l2, o2, e2⟩ := r.held
  ⟨fun q => hn l1 i o1 (q ▸ e1), fun q => hn l2 i o2 (q ▸ e2)⟩
theorem SR.set (S : SR G w σ h) (hs : w.Sub (w.set a x)) (hn : w.Unheld a) (k : ∀ b y, b ≠ a → h.get? b = some y → h'.get? b = some y) (hx : OwnOk h' a x) : SR G (w.set a x) σ h' := by
  refine ⟨fun b o e => ?_, S.n, fun i o e => ?_⟩
  · by_cases q : b = a
    · subst q; rw [Wd.set_at] at e; cases e; exact hx
    · rw [Wd.set_ne q] at e; exact (S.m b o e).keep fun _ z => k _ _ q z
  · obtain ⟨p, z, r⟩ := S.obj i o e
    obtain ⟨n1, n2⟩ := r.apart hn
    exact ⟨p, z, r.keep hs (Wd.set_ne n1) (Wd.set_ne n2) fun b y hb => k b y (by rcases hb with rfl | rfl; exact n1; exact n2)⟩
theorem SR.put (S : SR G w σ h) (hn : h.get? a = none) (k : ∀ b y, h.get? b = some y → h'.get? b = some y) (hx : OwnOk h' a x) : SR G (w.set a x) σ h' :=
  S.set (Wd.le_set (S.fresh hn)).sub (Wd.unheld_none (S.fresh hn)) (fun b y _ => k b y) hx
theorem sub_set {o : Own} (hs : w.m a = some o) (hf : ∀ z, o ≠ .fix z) : w.Sub (w.set a x) := ⟨fun b z e => (Wd.set_ne fun q => by
  subst q; rw [e] at hs; exact hf z (Option.some.inj hs).symm).trans e, List.prefix_refl _⟩
theorem SR.turn {o : Obj} (S : SR G w σ h) (hs : w.m a = some (.own o)) (k : ∀ b y, b ≠ a → h.get? b = some y → h'.get? b = some y) (hx : OwnOk h' a x) : SR G (w.set a x) σ h' :=
  S.set (sub_set hs fun _ q => nomatch q) (Wd.unheld_own hs) k hx
theorem SR.turnF {o : Obj} (S : SR G w σ h) (hs : w.m a = some (.fr o)) (k : ∀ b y, b ≠ a → h.get? b = some y → h'.get? b = some y) (hx : OwnOk h' a x) : SR G (w.set a x) σ h' :=
  S.set (sub_set hs fun _ q => nomatch q) (Wd.unheld_fr hs) k hx
theorem Wd.new_at : (w.new p).φ[w.φ.length]? = some p := by
  show (w.φ ++ [p])[w.φ.length]? = some p
  rw [List.getElem?_append_right (Nat.le_refl _), Nat.sub_self]; rfl
theorem Wd.new_1 : (w.new p).m p.1 = some (.obj w.φ.length) := if_pos (.inl rfl)
theorem Wd.new_2 : (w.new p).m p.2 = some (.obj w.φ.length) := if_pos (.inr rfl)
theorem Wd.new_ne {b : Addr} (h1 : b ≠ p.1) (h2 : b ≠ p.2) : (w.new p).m b = w.m b := if_neg fun q => q.elim h1 h2
theorem Wd.le_new {w₀ : Wd} (le : w₀.Le w) (h1 : w₀.m p.1 = none) (h2 : w₀.m p.2 = none) : w₀.Le (w.new p) :=
  ⟨fun b o e => (Wd.new_ne (fun q => by rw [q, h1] at e; cases e) (fun q => by rw [q, h2] at e; cases e)).trans (le.m b o e), le.φ.trans (List.prefix_append _ _)⟩
theorem SR.adopt (S : SR G w σ h) (hs : w.Sub (w.new p)) (n1 : w.Unheld p.1) (n2 : w.Unheld p.2) (k : ∀ b y, b ≠ p.1 → b ≠ p.2 → h.get? b = some y → h'.get? b = some y) (e1 : ∃ o, h'.get? p.1 = some o) (e2 : ∃ o, h'.get? p.2 = some o)
    (r : ORel G (w.new p) h' w.φ.length p o) : SR G (w.new p) (σ.new o) h' := by
  refine ⟨fun b q e => ?_, ?_, fun j q e => ?_⟩
  · by_cases z1 : b = p.1
    · subst z1; rw [Wd.new_1] at e; cases e; exact e1
    · by_cases z2 : b = p.2
      · subst z2; rw [Wd.new_2] at e; cases e; exact e2
      · rw [Wd.new_ne z1 z2] at e; exact (S.m b q e).keep fun _ y => k _ _ z1 z2 y
  · show σ.n + 1 = (w.φ ++ [p]).length
    rw [List.length_append, S.n]; rfl
  · by_cases z : j = σ.n
    · have e' : some o = some q := (if_pos z).symm.trans e
      cases e'
      rw [z, S.n]
      exact ⟨p, Wd.new_at, r⟩
    · obtain ⟨q', x, b⟩ := S.obj j q ((if_neg z).symm.trans e)
      obtain ⟨a1, a2⟩ := b.apart n1
      obtain ⟨b1, b2⟩ := b.apart n2
      exact ⟨q', prefix_get hs.φ x, b.keep hs (Wd.new_ne a1 b1) (Wd.new_ne a2 b2) fun b' y hb => k b' y (by rcases hb with rfl | rfl; exact a1; exact a2) (by rcases hb with rfl | rfl; exact b1; exact b2)⟩
theorem Wd.new_lt (S : SR G w σ h) (h1 : h.get? p.1 = none) (h2 : h.get? p.2 = none) : w.Le (w.new p) := Wd.le_new (.refl _) (S.fresh h1) (S.fresh h2)
theorem SR.alloc (S : SR G w σ h) (h1 : h.get? p.1 = none) (h2 : h.get? p.2 = none) (k : ∀ b y, h.get? b = some y → h'.get? b = some y) (e1 : ∃ o, h'.get? p.1 = some o) (e2 : ∃ o, h'.get? p.2 = some o)
    (r : ORel G (w.new p) h' w.φ.length p o) : SR G (w.new p) (σ.new o) h' :=
  S.adopt (Wd.new_lt S h1 h2).sub (Wd.unheld_none (S.fresh h1)) (Wd.unheld_none (S.fresh h2)) (fun b y _ _ => k b y) e1 e2 r
theorem SR.upd {d : Addr} (S : SR G w σ h) (hi : w.φ[i]? = some p) (hd : w.m d = some (.obj i)) (k : Heap.SameBut d h h')
    (hx : ∃ y, h'.get? d = some y) (r : ORel G w h' i p o) : SR G w (σ.set i o) h' := by
  refine ⟨fun b q e => ?_, S.n, fun j q e => ?_⟩
  · by_cases z : b = d
    · subst z; rw [hd] at e; cases e; exact hx
    · exact (S.m b q e).keep fun _ y => (k.2 b z).trans y
  · by_cases z : j = i
    · have e' : some o = some q := (if_pos z).symm.trans e
      cases e'; subst z
      exact ⟨p, hi, r⟩
    · obtain ⟨q', x, b⟩ := S.obj j q ((if_neg z).symm.trans e)
      obtain ⟨⟨l1, o1, m1⟩, l2, o2, m2⟩ := b.held
      refine ⟨q', x, b.keep (Wd.Le.refl _).sub rfl rfl fun b' y hb e => (k.2 b' fun q => ?_).trans e⟩
      subst q
      rcases hb with rfl | rfl
      · rw [hd] at m1; exact lkOwn_ne z (Option.some.inj m1).symm
      · rw [hd] at m2; exact lkOwn_ne z (Option.some.inj m2).symm
end
noncomputable def ObjNs (o : Obj) (m : Str → Option Value) : Prop := ∃ es ep, o.data = .dict es ep ∧ StrKeys es ∧ ∀ name, nsFind es name = m name
theorem ObjNs.ns {o : Obj} {m : Str → Option Value} {h : Heap} {a : Addr} (x : ObjNs o m) (e : h.get? a = some o) : h.Ns a m := let ⟨es, ep, r⟩ := x; ⟨o, es, ep, e, r⟩
theorem ObjNs.slots {o : Obj} {m : Str → Option Value} (x : ObjNs o m) (sl : Array (Option Value)) : ObjNs { o with slots := sl } m := x
theorem ObjNs.of {m : Str → Option Value} {h : Heap} {a : Addr} (x : h.Ns a m) : ∃ o, h.get? a = some o ∧ ObjNs o m := let ⟨o, es, ep, e, r⟩ := x; ⟨o, e, es, ep, r⟩
structure FR (G : Gl) (w : Wd) (env : Env) (vis : List (Str × Nat)) (ρ : Rho) : Prop where
  kind : env.scope.kind = .function
  glob : env.globals = mainGlobals
  bi : env.builtins = builtinsNs
  ns : ∃ o m, w.m env.locals = some (.fr o) ∧ ObjNs o m ∧
    ∀ x k v, vis.lookup x = some k → env.scope.names.lookup x = some .local → ρ k = some v → ∃ y, m x = some y ∧ VR G w v y
  cells : ∀ x k v, vis.lookup x = some k → (env.scope.names.lookup x = some .cell ∨ env.scope.names.lookup x = some .free) → ρ k = some v →
    ∃ a o y, env.cells.lookup x = some a ∧ w.m a = some (.fr o) ∧ o.data = .cell (some y) ∧ VR G w v y
theorem FR.mono {G : Gl} {w w' : Wd} {env : Env} {vis : List (Str × Nat)} {ρ : Rho} (F : FR G w env vis ρ) (h : w.Le w') : FR G w' env vis ρ where
  kind := F.kind
  glob := F.glob
  bi := F.bi
  ns := let ⟨o, m, a, b, d⟩ := F.ns; ⟨o, m, h.m _ _ a, b, fun x k v e1 e2 e3 => let ⟨y, p, q⟩ := d x k v e1 e2 e3; ⟨y, p, q.mono h.sub⟩⟩
  cells x k v e1 e2 e3 := let ⟨a, o, y, p, q, r, z⟩ := F.cells x k v e1 e2 e3; ⟨a, o, y, p, h.m _ _ q, r, z.mono h.sub⟩
noncomputable def clsOk (K : Frag) (attrs : List String) (C : Addr) : Bool :=
  findIn K (.ref C) "__getattribute__" == some (some (.builtin "object.__getattribute__")) && findIn K (.ref C) "__getattr__" == some none && hasDictIn K C &&
  findIn K (.ref C) "__setattr__" == some (some (.builtin "object.__setattr__")) && plainOver K C && makesIn K C && attrs.all (fun a => findIn K (.ref C) (Str.ofString a) == some none)
structure Base (G : Gl) (w : Wd) : Prop where
  k : ∀ a o, G.K.lookup a = some o → w.m a = some (.fix o)
  g : ∃ o, w.m mainGlobals = some (.fix o) ∧ ObjNs o G.mg
  b : ∃ o, w.m builtinsNs = some (.fix o) ∧ ObjNs o G.mb
  bi : ∀ x : Str, x ≠ "__name__" → G.mb x = bootBuiltins x
  nolim : ∃ o mc, w.m cStatics = some (.fix o) ∧ ObjNs o mc ∧ mc "sys.recursionlimit" = none
  cls : ∀ x ∈ G.com.cls, ∃ C, clsAt G.K x = some C ∧ clsOk G.K G.com.attrs C = true
  exc : ∀ x ∈ G.com.excs, excOk G.K G.P.sub (G.com.excs ++ G.com.cls) x = true
section
variable {G : Gl} {w w' : Wd} {σ : St} {h : Heap}
theorem Base.mono (B : Base G w) (l : w.Sub w') : Base G w' :=
  ⟨fun a o e => l.m _ _ (B.k a o e), let ⟨o, e, x⟩ := B.g; ⟨o, l.m _ _ e, x⟩, let ⟨o, e, x⟩ := B.b; ⟨o, l.m _ _ e, x⟩, B.bi, let ⟨o, mc, e, x⟩ := B.nolim; ⟨o, mc, l.m _ _ e, x⟩, B.cls, B.exc⟩
theorem SR.at (S : SR G w σ h) {a : Addr} {o : Obj} (e : w.m a = some (.fix o)) : h.get? a = some o := S.m _ _ e
theorem Base.kin (B : Base G w) (S : SR G w σ h) : G.K.In h := fun a o e => S.at (B.k a o e)
theorem Base.gns (B : Base G w) (S : SR G w σ h) : h.Ns mainGlobals G.mg := let ⟨_, e, x⟩ := B.g; x.ns (S.at e)
theorem Base.bns (B : Base G w) (S : SR G w σ h) : h.Ns builtinsNs G.mb := let ⟨_, e, x⟩ := B.b; x.ns (S.at e)
theorem Base.lim (B : Base G w) (S : SR G w σ h) : h.NoLimit := let ⟨_, mc, e, x, y⟩ := B.nolim; ⟨mc, x.ns (S.at e), y⟩
theorem FR.locals {env : Env} {vis : List (Str × Nat)} {ρ : Rho} (F : FR G w env vis ρ) (S : SR G w σ h) : ∃ m, h.Ns env.locals m ∧
    ∀ x k v, vis.lookup x = some k → env.scope.names.lookup x = some .local → ρ k = some v → ∃ y, m x = some y ∧ VR G w v y :=
  let ⟨_, m, a, b, d⟩ := F.ns
  let ⟨_, sl, e⟩ := S.m _ _ a
  ⟨m, (b.slots sl).ns e, d⟩
end
structure Fits (G : Gl) (cx : Cxt) (env : Env) : Prop where
  names : env.scope.names = cx.scope.names
  cls : cx.cls = G.com.cls
  attrs : cx.attrs = G.com.attrs
  cells : ∀ x, cx.scope.names.lookup x = some .cell → (env.cells.lookup x).isSome = true
noncomputable def Same (s s' : Shared) : Prop := ∃ h tk, s' = { s with heap := h, toks := tk }
theorem Same.refl (s : Shared) : Same s s := ⟨s.heap, s.toks, rfl⟩
theorem Same.trans {a b d : Shared} (h : Same a b) (k : Same b d) : Same a d := by
  obtain ⟨h1, t1, rfl⟩ := h
  obtain ⟨h2, t2, rfl⟩ := k
  exact ⟨h2, t2, rfl⟩
theorem Same.of (s : Shared) (h : Heap) (t : Nat) : Same s { s with heap := h, toks := t } := ⟨h, t, rfl⟩
end Lw
namespace Lw
open PySem PySem.W PySem.Calls PyProof.Rows
structure AOK (A : Around) (n : Nat) (hd : Bool) (w : Wd) (envs : List Env) : Prop where
  handled : hd = false → A.handled = none
  depth : A.depth + 4 * n + 4 < 1000
  units : A.units + 100 * n + 200 < 9900
  frs : ∀ env ∈ envs, env.scope.kind = .function ∧ ∃ L o, env.frame = some L ∧ w.m L = some (.fr o)
theorem AOK.mono {A : Around} {n : Nat} {hd : Bool} {w w' : Wd} {envs : List Env} (h : AOK A n hd w envs) (l : ∀ x o, w.m x = some (.fr o) → w'.m x = some (.fr o)) : AOK A n hd w' envs :=
  ⟨h.handled, h.depth, h.units, fun e q => let ⟨a, L, o, x, y⟩ := h.frs e q; ⟨a, L, o, x, l _ _ y⟩⟩
structure Post (G : Gl) (w : Wd) (s : Shared) (w' : Wd) (σ' : St) (s' : Shared) : Prop where
  hs : Same s s'
  hw : w.Le w'
  S : SR G w' σ' s'.heap
structure Ahead (w : Wd) (s : Shared) (w' : Wd) (s' : Shared) : Prop where
  hs : Same s s'
  hw : w.Le w'
section
variable {G : Gl} {w w' w₀ w₁ : Wd} {s s' s₀ s₁ : Shared} {σ σ' : St} {h : Heap} {tk : Nat}
theorem Ahead.refl : Ahead w s w s := ⟨.refl _, .refl _⟩
theorem Post.ahead (p : Post G w s w' σ' s') : Ahead w s w' s' := ⟨p.hs, p.hw⟩
theorem Ahead.post (a : Ahead w₀ s₀ w s) (p : Post G w s w' σ' s') : Post G w₀ s₀ w' σ' s' := ⟨a.hs.trans p.hs, a.hw.trans p.hw, p.S⟩
theorem Ahead.step (a : Ahead w₀ s₀ w s) (p : Post G w s w' σ' s') : Ahead w₀ s₀ w' s' := ⟨a.hs.trans p.hs, a.hw.trans p.hw⟩
theorem SR.post (S : SR G w σ s.heap) : Post G w s w σ s := ⟨.refl _, .refl _, S⟩
theorem SR.postH (S : SR G w σ h) : Post G w s w σ { s with heap := h, toks := tk } := ⟨.of _ _ _, .refl _, S⟩
end
noncomputable def XP (G : Gl) (w : Wd) (s : Shared) (envs : List Env) (x : String) (σ' : St) (e : Value) (s' : Shared) : Prop :=
  ∃ (ea C : Addr) (a0 : Value) (B : Heap) (w' : Wd), e = .ref ea ∧ ExcCls G x C ∧ Post G w s w' σ' s' ∧ Heap.FlyingW B envs ea (.ref C) a0 s'.heap ∧
    ∀ b o y, w'.m b = some o → (∀ z, o ≠ .fr z) → s'.heap.get? b = some y → B.get? b = some y
theorem XP.mono {G : Gl} {w w₁ : Wd} {s s₁ : Shared} {envs : List Env} {x : String} {σ' : St} {e : Value} {s' : Shared} (a : Ahead w s w₁ s₁) (h : XP G w₁ s₁ envs x σ' e s') : XP G w s envs x σ' e s' :=
  let ⟨ea, C, a0, B, w', e1, e2, p, r⟩ := h; ⟨ea, C, a0, B, w', e1, e2, a.post p, r⟩
noncomputable def Out {α β : Type} (G : Gl) (R : Wd → α → β → Prop) (w : Wd) (s : Shared) (a : α) (σ' : St) : β → Shared → Prop := fun v s' => ∃ w', Post G w s w' σ' s' ∧ R w' a v
noncomputable def QV {α β : Type} (G : Gl) (R : Wd → α → β → Prop) (w : Wd) (s : Shared) : Res α → St → β → Shared → Prop
  | .ok a, σ' => Out G R w s a σ'
  | .exc _, _ => fun _ _ => False
noncomputable def QX {α : Type} (G : Gl) (w : Wd) (s : Shared) (envs : List Env) : Res α → St → Value → Shared → Prop
  | .ok _, _ => fun _ _ => False
  | .exc x, σ' => XP G w s envs x σ'
structure Pt (G : Gl) (n : Nat) (cx : Cxt) where
  hd : Bool
  w : Wd
  ρ : Rho
  σ : St
  env : Env
  envs : List Env
  A : Around
  s : Shared
  B : Base G w
  S : SR G w σ s.heap
  F : FR G w env cx.vis ρ
  hn : Fits G cx env
  hA : AOK A n hd w envs
  fr : A.frames = some envs
section
variable {G : Gl} {n : Nat} {cx : Cxt} {w' w₀ : Wd} {s' s₀ : Shared} {σ' : St}
noncomputable def Pt.to (X : Pt G n cx) (p : Post G X.w X.s w' σ' s') : Pt G n cx := { X with w := w', σ := σ', s := s', B := X.B.mono p.hw.sub, S := p.S, F := X.F.mono p.hw, hA := X.hA.mono fun _ _ e => p.hw.m _ _ e }
noncomputable def Pt.ev (X : Pt G n cx) (e : E) : RV := Lw.ev G.P (run G.P n) X.hd e X.ρ X.σ
structure Sim (G : Gl) (n : Nat) (cx : Cxt) (ir : E) (e : Expr) : Prop where
  v : ∀ (X : Pt G n cx) (r : Res V) (σ' : St), X.ev ir = some (r, σ') → wpAny G.M X.A (eval e X.env) (QV G (VR G) X.w X.s r σ') (QX G X.w X.s X.envs r σ') X.s
  t : ∀ (X : Pt G n cx) (r : Res V) (σ' : St), X.ev ir = some (r, σ') → (∀ a, r = .ok a → ∃ t, truthV σ' a = some t) →
    wpAny G.M X.A (isTrue e X.env (eval e X.env)) (QV G (fun _ a t => truthV σ' a = some t) X.w X.s r σ') (QX G X.w X.s X.envs r σ') X.s
variable {a : E} {e : Expr} {α : Type} {r : Res α} {k : V → St → Option (Res α × St)} {R : Value → Shared → Prop}
theorem Sim.bind (ha : Sim G n cx a e) (X : Pt G n cx) (A0 : Ahead w₀ s₀ X.w X.s) (hev : bindM (X.ev a) k = some (r, σ'))
    (hk : ∀ x xv w₁ σ₁ s₁ (_ : Post G X.w X.s w₁ σ₁ s₁), VR G w₁ x xv → k x σ₁ = some (r, σ') → R xv s₁) :
    wpAny G.M X.A (eval e X.env) R (QX G w₀ s₀ X.envs r σ') X.s := by
  cases h1 : X.ev a with
  | none => rw [h1] at hev; cases hev
  | some q =>
    rw [h1] at hev
    obtain ⟨x | x, σ₁⟩ := q
    · exact wpAny_mono (ha.v X _ _ h1) (fun v s₁ ⟨w₁, p, hv⟩ => hk _ _ _ _ _ p hv hev) fun _ _ q => q.elim
    · cases hev
      exact wpAny_mono (ha.v X _ _ h1) (fun _ _ q => q.elim) fun _ _ q => q.mono A0
theorem truthV_sound {A : Around} {s : Shared} {w : Wd} {σ : St} {a : V} {v : Value} {t : Bool} {E : Value → Shared → Prop} {Q : Bool → Shared → Prop} (hv : VR G w a v) (ht : truthV σ a = some t) (h : Q t s) : wpAny G.M A (truthy v) Q E s := by
  cases hv with
  | none => cases ht; exact truthy_none h
  | bool b => cases ht; exact wpAny_truthy_bool h
  | int i t =>
    cases ht
    refine PyProof.Rows.truthy_int ?_
    rw [show (i != 0) = decide (i ≠ 0) from by by_cases q : i = 0 <;> simp [q]]
    exact h
  | str => cases ht
  | tup => cases ht
  | lst => cases ht
  | rng => cases ht
  | ref => cases ht
  | exc => cases ht
theorem Sim.of (hv : ∀ (X : Pt G n cx) (r : Res V) (σ' : St), X.ev a = some (r, σ') → wpAny G.M X.A (eval e X.env) (QV G (VR G) X.w X.s r σ') (QX G X.w X.s X.envs r σ') X.s)
    (he : ∀ env whole, isTrue e env whole = (do let v ← whole; standAt e.pos; holding [v] (truthy v))) : Sim G n cx a e :=
  ⟨hv, fun X r σ' hev ht => wpAny_isTrue_value (wpAny_mono (hv X r σ' hev) (fun v s₁ q => by
    cases r with
    | exc => exact q.elim
    | ok y =>
      obtain ⟨w₁, p, hv⟩ := q
      obtain ⟨t, ht⟩ := ht y rfl
      exact truthV_sound hv ht ⟨w₁, p, ht⟩) fun _ _ q => q) (he _ _)⟩
theorem Pt.out (X : Pt G n cx) {v : V} {x : Value} {tk : Nat} (hv : VR G X.w v x) : Out G (VR G) X.w X.s v X.σ x { X.s with toks := tk } := ⟨X.w, ⟨.of _ _ _, .refl _, X.S⟩, hv⟩
theorem Pt.out' (X : Pt G n cx) {v : V} {x : Value} (hv : VR G X.w v x) : Out G (VR G) X.w X.s v X.σ x X.s := X.out (tk := X.s.toks) hv
@[elab_as_elim] theorem ok_inv {σ : St} {v : V} {r : Res V} {C : Res V → St → Prop} (h : some (Res.ok v, σ) = some (r, σ')) (k : C (.ok v) σ) : C r σ' := by cases h; exact k
@[elab_as_elim] theorem retV_inv {o : Option V} {σ : St} {r : Res V} {C : Res V → St → Prop} (h : retV o σ = some (r, σ')) (k : ∀ v, o = some v → C (.ok v) σ) : C r σ' := by
  cases o with
  | none => cases h
  | some v => cases h; exact k v rfl
@[elab_as_elim] theorem retB_inv {o : Option Bool} {σ : St} {r : Res V} {C : Res V → St → Prop} (h : retB o σ = some (r, σ')) (k : ∀ v, o = some v → C (.ok (.bool v)) σ) : C r σ' := by
  cases o with
  | none => cases h
  | some v => cases h; exact k v rfl
theorem onO_inv {α β : Type} {o : Option α} {k : α → Option β} {b : β} (h : onO o k = some b) : ∃ a, o = some a ∧ k a = some b := by
  cases o with
  | none => cases h
  | some a => exact ⟨a, rfl, h⟩
theorem orElse_inv {α : Type} {a b : Option α} {z : α} (h : orElse a b = some z) : a = some z ∨ b = some z := by
  cases a with
  | none => exact .inr h
  | some x => exact .inl h
theorem listAt_inv {σ : St} {i : Nat} {vs : List V} (h : listAt σ i = some vs) : ∃ l, σ.get i = some (.list l vs) := by
  obtain ⟨o, e, h⟩ := Option.bind_eq_some_iff.mp h
  cases o with
  | list l us => cases h; exact ⟨l, e⟩
  | _ => exact no h
theorem if_inv {p : Prop} [Decidable p] {α : Type} {x : Option α} {z : α} (h : (if p then x else none) = some z) : p ∧ x = some z := by
  split at h
  · exact ⟨‹_›, h⟩
  · cases h
theorem ifn_inv {p : Prop} [Decidable p] {α : Type} {x : Option α} {z : α} (h : (if p then none else x) = some z) : ¬ p ∧ x = some z := by
  split at h
  · cases h
  · exact ⟨‹_›, h⟩
theorem sim_cNone {j : Nat} {pos : Pos} : Sim G n cx .cNone (.Constant .none j pos) := .of (fun X _ _ hev => ok_inv hev (wpAny_Constant_none (X.out' .none))) fun _ _ => rfl
theorem sim_cBool {b : Bool} {j : Nat} {pos : Pos} : Sim G n cx (.cBool b) (.Constant (.bool b) j pos) := .of (fun X _ _ hev => ok_inv hev (wpAny_Constant_bool (X.out' (.bool _)))) fun _ _ => rfl
theorem sim_cInt {i : Int} {j : Nat} {pos : Pos} : Sim G n cx (.cInt i) (.Constant (.int i) j pos) := .of (fun X _ _ hev => ok_inv hev (wpAny_Constant_int (X.out (.int _ _)))) fun _ _ => rfl
theorem sim_cStr {x : Str} {j : Nat} {pos : Pos} (hx : sOk x = true) : Sim G n cx (.cStr x) (.Constant (.str x) j pos) := .of (fun X _ _ hev => ok_inv hev (wpAny_Constant_str (X.out (.str _ _ hx)))) fun _ _ => rfl
theorem sim_var {j : Nat} {x : Str} {pos : Pos} (hvis : cx.vis.lookup x = some j) (hl : cx.isLocal x = true) (hdb : (x == ("__debug__" : Str)) = false) (hcd : (x == ("__classdict__" : Str)) = false) :
    Sim G n cx (.var j) (.Name x pos) := .of (fun X r σ' hev => retV_inv hev fun v hv => by
  refine wpAny_Name ?_ hdb
  unfold Cxt.isLocal at hl
  rw [← X.hn.names] at hl
  split at hl
  · rename_i hk
    obtain ⟨m, hns, hm⟩ := X.F.locals X.S
    obtain ⟨y, e, hy⟩ := hm x j v hvis hk hv
    exact wpAny_loadName_local X.F.kind hk hns e (X.out' hy)
  · rename_i hk
    obtain ⟨a, o, y, e1, e2, e3, hy⟩ := X.F.cells x j v hvis (.inl hk) hv
    obtain ⟨_, sl, e2⟩ := X.S.m _ _ e2
    exact wpAny_loadName_cell X.F.kind hk e1 ⟨_, e2, e3⟩ (X.out' hy)
  · rename_i hk
    obtain ⟨a, o, y, e1, e2, e3, hy⟩ := X.F.cells x j v hvis (.inr hk) hv
    obtain ⟨_, sl, e2⟩ := X.S.m _ _ e2
    exact wpAny_loadName_free X.F.kind hk e1 ⟨_, e2, e3⟩ (X.out' hy) hcd
  · cases hl) fun _ _ => rfl
theorem glob_inv {x : Str} (X : Pt G n cx) (hg : cx.isGlob x = true) : X.env.scope.names.lookup x = some .globalImplicit ∧ (x == ("__debug__" : Str)) = false := by
  unfold Cxt.isGlob at hg
  rw [← X.hn.names] at hg
  simpa using hg
theorem glob_name {x : Str} {pos : Pos} {v : Value} {E : Value → Shared → Prop} {Q : Value → Shared → Prop} (X : Pt G n cx) (hg : cx.isGlob x = true) (e : nsIn G.K mainGlobals x = some (some v)) (h : Q v X.s) : wpAny G.M X.A (eval (.Name x pos) X.env) Q E X.s :=
  have hg := glob_inv X hg
  Name_function_global X.F.kind hg.1 (loadGlobal_global (by rw [X.F.glob]; exact X.B.gns X.S) (mg_of (X.B.kin X.S) (X.B.gns X.S) e) h) hg.2
theorem glob_bi {x : Str} {pos : Pos} {v : Value} {E : Value → Shared → Prop} {Q : Value → Shared → Prop} (X : Pt G n cx) (hg : cx.isGlob x = true) (e : nsIn G.K mainGlobals x = some none) (hb : bootBuiltins x = some v) (hx : x ≠ "__name__") (h : Q v X.s) : wpAny G.M X.A (eval (.Name x pos) X.env) Q E X.s :=
  have hg := glob_inv X hg
  Name_function_global X.F.kind hg.1 (loadGlobal_builtin (by rw [X.F.glob]; exact X.B.gns X.S) (mg_none_of (X.B.kin X.S) (X.B.gns X.S) e) (by rw [X.F.bi]; exact X.B.bns X.S) ((X.B.bi x hx).trans hb) h) hg.2
theorem sim_gint {x : String} {i : Int} {t : Tok} {pos : Pos} (hg : cx.isGlob (Str.ofString x) = true) (e : nsIn G.K mainGlobals (Str.ofString x) = some (some (.int i t))) :
    Sim G n cx (.gint x i) (.Name (Str.ofString x) pos) := .of (fun X _ _ hev => ok_inv hev (glob_name X hg e (X.out' (.int _ _)))) fun _ _ => rfl
end
end Lw
namespace Lw
open PySem PySem.W PySem.Calls PyProof.Rows
theorem log60 {a : Nat} (h0 : a ≠ 0) (h : a < 2 ^ 60) : a.log2 < 60 := (Nat.log2_lt h0).mpr h
theorem bits_small {a : Int} (h : a.natAbs < 2 ^ 60) : Builtin.Int.intBits a ≤ 64 := by
  unfold Builtin.Int.intBits
  split
  · decide
  · rename_i h0
    exact Nat.le_trans (Nat.succ_le_succ (Nat.le_of_lt (log60 (fun q => h0 (by simp at q; simp [q])) h))) (by decide)
theorem sOk_iff {a : Str} : sOk a = true ↔ PyData.strOk a = true ∧ a.cps.size ≤ lim := by unfold sOk; simp
theorem strOk_append {a b : Str} (ha : PyData.strOk a = true) (hb : PyData.strOk b = true) : PyData.strOk (a ++ b) = true := by
  unfold PyData.strOk at *
  rw [Str.cps_append, Array.all_append, ha, hb]; rfl
theorem get_size (h : Heap) : h.get? h.objs.size = none := by
  cases e : h.get? h.objs.size with
  | none => rfl
  | some o => exact absurd (Heap.lt_size e) (Nat.lt_irrefl _)
theorem push_keeps (h : Heap) (o : Obj) : ∀ b x, h.get? b = some x → (h.push o).get? b = some x := fun _ _ e => Heap.get?_push_of_some _ e
theorem lim_size {k : Nat} (h : k ≤ lim) : k + 1 ≤ sizeLine := Nat.le_trans (Nat.succ_le_succ h) (by decide)
theorem lim_size0 {k : Nat} (h : k ≤ lim) : k ≤ sizeLine := Nat.le_trans h (by decide)
theorem withInt_inv {α : Type} {v : V} {k : Int → Option α} {z : α} (h : withInt v k = some z) : ∃ i, v = .int i ∧ k i = some z := by
  cases v with
  | int i => exact ⟨_, rfl, h⟩
  | _ => exact no h
theorem withStr_inv {α : Type} {v : V} {k : Str → Option α} {z : α} (h : withStr v k = some z) : ∃ i, v = .str i ∧ k i = some z := by
  cases v with
  | str i => exact ⟨_, rfl, h⟩
  | _ => exact no h
theorem withLst_inv {α : Type} {v : V} {k : List V → Option α} {z : α} (h : withLst v k = some z) : ∃ i, v = .lst i ∧ k i = some z := by
  cases v with
  | lst i => exact ⟨_, rfl, h⟩
  | _ => exact no h
theorem withRef_inv {α : Type} {v : V} {k : Nat → Option α} {z : α} (h : withRef v k = some z) : ∃ i, v = .ref i ∧ k i = some z := by
  cases v with
  | ref i => exact ⟨_, rfl, h⟩
  | _ => exact no h
theorem withBool_inv {α : Type} {v : V} {k : Bool → Option α} {z : α} (h : withBool v k = some z) : ∃ i, v = .bool i ∧ k i = some z := by
  cases v with
  | bool i => exact ⟨_, rfl, h⟩
  | _ => exact no h
theorem int2_inv {a b z : V} {k : Int → Int → Option V} (h : int2 a b k = some z) : ∃ i j, a = .int i ∧ b = .int j ∧ k i j = some z :=
  let ⟨i, e1, h⟩ := withInt_inv h
  let ⟨j, e2, h⟩ := withInt_inv h
  ⟨i, j, e1, e2, h⟩
theorem cmpI_inv {a b : V} {k : Int → Int → Bool} {t : Bool} (h : cmpI a b k = some t) : ∃ i j, a = .int i ∧ b = .int j ∧ k i j = t :=
  let ⟨i, e1, h⟩ := withInt_inv h
  let ⟨j, e2, h⟩ := withInt_inv h
  ⟨i, j, e1, e2, Option.some.inj h⟩
theorem addV_inv {a b z : V} (h : addV a b = some z) : (∃ i j, a = .int i ∧ b = .int j ∧ .int (i + j) = z) ∨ (∃ i j, a = .str i ∧ b = .str j ∧ i.length + j.length ≤ lim ∧ .str (i ++ j) = z) ∨ ∃ i j, a = .lst i ∧ b = .lst j ∧ i.length + j.length ≤ lim ∧ .lst (i ++ j) = z := by
  cases a with
  | int i => let ⟨j, e, h⟩ := withInt_inv h; exact .inl ⟨i, j, rfl, e, Option.some.inj h⟩
  | str i => let ⟨j, e, h⟩ := withStr_inv h; exact .inr (.inl ⟨i, j, rfl, e, (if_inv h).1, Option.some.inj (if_inv h).2⟩)
  | lst i => let ⟨j, e, h⟩ := withLst_inv h; exact .inr (.inr ⟨i, j, rfl, e, (if_inv h).1, Option.some.inj (if_inv h).2⟩)
  | _ => exact no h
section
variable {G : Gl} {n : Nat} {cx : Cxt} {w w' w₀ : Wd} {s s' s₀ : Shared} {σ σ' : St} {A : Around} {Ex : Value → Shared → Prop} {Q : Value → Shared → Prop} {x y : Value}
theorem add_two {l b : Addr} {vs ws : Array Value} (hl : s.heap.IsList l vs) (hb : s.heap.IsList b ws)
    (h : Q (.ref s.heap.objs.size) { s with heap := s.heap.push { cls := .type "list", data := .seq (vs ++ ws) } }) (hsz : vs.size + ws.size ≤ sizeLine) :
    wpAny G.M A (binaryOp .Add (.ref l) (.ref b)) Q Ex s := by
  obtain ⟨⟨cls, dd, data, sl⟩, ho, hc, n, hd⟩ := id hl
  obtain ⟨⟨cls2, dd2, data2, sl2⟩, ho2, hc2, n2, hd2⟩ := id hb
  simp only at hc hd hc2 hd2
  subst hc hd hc2 hd2
  exact concat_meets ⟨_, ho, rfl⟩ ⟨_, ho2, rfl⟩ noFill_list_add seq_list_add PySem.F.slot_list_add PySem.F.entry_list_add (PySem.F.args_list_add_2 _ _) (list_addW l b vs ws n n2 dd dd2 sl sl2 hsz) ⟨ho, ho2, h⟩
theorem VR.intv {i : Int} (h : VR G w (.int i) x) : ∃ t, x = .int i t := by cases h; exact ⟨_, rfl⟩
theorem VR.strv {i : Str} (h : VR G w (.str i) x) : ∃ t, x = .str i t ∧ sOk i = true := by cases h; exact ⟨_, rfl, ‹_›⟩
theorem VR.boolv {i : Bool} (h : VR G w (.bool i) x) : x = .bool i := by cases h; rfl
theorem VR.refv {i : Nat} (h : VR G w (.ref i) x) : ∃ p, w.φ[i]? = some p ∧ x = .ref p.1 := by cases h; exact ⟨_, ‹_›, rfl⟩
theorem VR.lstv {vs : List V} (h : VR G w (.lst vs) x) (S : SR G w σ s.heap) : ∃ a xs, x = .ref a ∧ s.heap.IsList a xs ∧ VRs G w vs xs.toList ∧ vs.length ≤ lim := by
  cases h with
  | lst e1 e2 e3 e4 e5 => exact ⟨_, _, rfl, ⟨_, S.at e1, e2, _, e3⟩, e4, e5⟩
theorem VR.tupv {vs : List V} (h : VR G w (.tup vs) x) (S : SR G w σ s.heap) : ∃ a o xs k, x = .ref a ∧ s.heap.get? a = some o ∧ o.cls = .type "tuple" ∧ o.data = .seq xs k ∧ VRs G w vs xs.toList ∧ vs.length ≤ lim := by
  cases h with
  | tup e1 e2 e3 e4 e5 => exact ⟨_, _, _, _, rfl, S.at e1, e2, e3, e4, e5⟩
theorem VRs.size {vs : List V} {xs : Array Value} (h : VRs G w vs xs.toList) : vs.length = xs.size := (All2.length h).trans (Array.length_toList ..)
theorem SR.freeze {o : Obj} {tk : Nat} {v : V} (S : SR G w σ s.heap) (hv : VR G (w.set s.heap.objs.size (.fix o)) v (.ref s.heap.objs.size)) (hf : o.isFreed = false) : Out G (VR G) w s v σ (.ref s.heap.objs.size) { s with heap := s.heap.push o, toks := tk } :=
  ⟨_, ⟨.of _ _ _, Wd.le_set (S.fresh (get_size _)), S.put (x := .fix o) (get_size _) (push_keeps _ _) (Heap.get?_push_size s.heap hf)⟩, hv⟩
theorem SR.freezeL {vs : List V} {xs : Array Value} {e : Nat} {tk : Nat} (S : SR G w σ s.heap) (hv : VRs G w vs xs.toList) (hl : vs.length ≤ lim) : Out G (VR G) w s (.lst vs) σ (.ref s.heap.objs.size) { s with heap := s.heap.push ⟨.type "list", none, .seq xs e, #[]⟩, toks := tk } :=
  S.freeze (.lst Wd.set_at rfl rfl (hv.mono (Wd.le_set (S.fresh (get_size _))).sub) hl) rfl
theorem SR.outI {i : Int} {t : Tok} {tk : Nat} (S : SR G w σ s.heap) : Out G (VR G) w s (.int i) σ (.int i t) { s with toks := tk } := ⟨w, S.postH, .int _ _⟩
theorem addV_sound {a b z : V} (S : SR G w σ s.heap) (ha : VR G w a x) (hb : VR G w b y) (hz : addV a b = some z) : wpAny G.M A (binaryOp .Add x y) (Out G (VR G) w s z σ) Ex s := by
  rcases addV_inv hz with ⟨i, j, rfl, rfl, rfl⟩ | ⟨i, j, rfl, rfl, hl, rfl⟩ | ⟨i, j, rfl, rfl, hl, rfl⟩
  · obtain ⟨t, rfl⟩ := ha.intv
    obtain ⟨u, rfl⟩ := hb.intv
    exact wpAny_add_int S.outI
  · obtain ⟨t, rfl, ka⟩ := ha.strv
    obtain ⟨u, rfl, kb⟩ := hb.strv
    exact add_str (fun t' tk => ⟨w, S.postH, .str _ _ (sOk_iff.mpr ⟨strOk_append (sOk_iff.mp ka).1 (sOk_iff.mp kb).1, by rw [Str.cps_append, Array.size_append]; exact hl⟩)⟩) (lim_size0 hl)
  · obtain ⟨a, xs, rfl, la, va, _⟩ := ha.lstv S
    obtain ⟨b, ys, rfl, lb, vb, _⟩ := hb.lstv S
    exact add_two la lb (S.freezeL (tk := s.toks) (by rw [Array.toList_append]; exact All2.append va vb) (by rw [List.length_append]; exact hl)) (by rw [← va.size, ← vb.size]; exact lim_size0 hl)
theorem binV_sound {op : BOp} {a b z : V} (S : SR G w σ s.heap) (ha : VR G w a x) (hb : VR G w b y) (hz : binV op a b = some z) : wpAny G.M A (binaryOp (bopOf op) x y) (Out G (VR G) w s z σ) Ex s := by
  have two : ∀ {k : Int → Int → Option V} {C : Prop}, int2 a b k = some z → (∀ i j u v, x = .int i u → y = .int j v → k i j = some z → C) → C := fun e q => by
    obtain ⟨i, j, rfl, rfl, e'⟩ := int2_inv e
    obtain ⟨u, hu⟩ := ha.intv
    obtain ⟨v, hv⟩ := hb.intv
    exact q i j u v hu hv e'
  cases op with
  | add => exact addV_sound S ha hb hz
  | sub => exact two hz fun i j u v e1 e2 e => by subst e1 e2; cases e; exact PyProof.Rows.sub_int S.outI
  | mul => exact two hz fun i j u v e1 e2 e => by subst e1 e2; obtain ⟨hl, e⟩ := if_inv e; cases e; exact PyProof.Rows.mul_int S.outI (IntMulOk.of_left (bits_small hl.1))
  | fdiv =>
    exact two hz fun i j u v e1 e2 e => by
      subst e1 e2; obtain ⟨hl, e⟩ := if_inv e; cases e
      exact PyProof.Rows.floordiv_int (Int.ne_of_gt hl.1) (by rw [Int.fdiv_eq_ediv_of_nonneg _ (Int.le_of_lt hl.1)]; exact S.outI) (.inl (PyProof.noPylong_of_log2 (Nat.lt_trans (log60 (by omega) (by omega)) (by decide))))
  | mod =>
    exact two hz fun i j u v e1 e2 e => by
      subst e1 e2; obtain ⟨hl, e⟩ := if_inv e; cases e
      exact PyProof.Rows.mod_int' (Int.ne_of_gt hl.1) (by rw [Int.fmod_eq_emod_of_nonneg _ (Int.le_of_lt hl.1)]; exact S.outI)
  | pow =>
    exact two hz fun i j u v e1 e2 e => by
      subst e1 e2; obtain ⟨⟨q, h1, h2⟩, e⟩ := if_inv e; cases e; subst q
      exact PyProof.Rows.pow_int_small h1 (Int.le_trans h2 (by decide)) (by decide) S.outI
theorem Ahead.out {α β : Type} {R : Wd → α → β → Prop} {a : α} {v : β} (A0 : Ahead w₀ s₀ w s) (h : Out G R w s a σ' v s') : Out G R w₀ s₀ a σ' v s' := let ⟨w', p, hv⟩ := h; ⟨w', A0.post p, hv⟩
theorem wp_out {β : Type} {R : Wd → V → β → Prop} {z : V} {t : Sem β} (A0 : Ahead w₀ s₀ w s) (h : wpAny G.M A t (Out G R w s z σ') Ex s) : wpAny G.M A t (Out G R w₀ s₀ z σ') Ex s := wpAny_mono h (fun _ _ q => A0.out q) fun _ _ q => q
theorem sim_bin {op : BOp} {a b : E} {l r : Expr} {pos : Pos} (ha : Sim G n cx a l) (hb : Sim G n cx b r) : Sim G n cx (.bin op a b) (.BinOp l (bopOf op) r pos) :=
  .of (fun X r σ' hev => wpAny_BinOp (ha.bind X .refl hev fun x xv w₁ σ₁ s₁ p hx hk => hb.bind (X.to p) p.ahead hk fun y yv w₂ σ₂ s₂ q hy hk =>
    retV_inv hk fun z hz => wp_out (p.ahead.step q) (binV_sound q.S (hx.mono q.hw.sub) hy hz))) fun _ _ => rfl
noncomputable def RdOk (h : Heap) (m : Nat) (x : Value) (d : PyData) : Prop := (∃ as, Reads h x d as) ∧ d.canLay0 = true ∧ d.depth ≤ m
theorem mapO_reads {h : Heap} {m : Nat} {f : V → Option PyData} (ih : ∀ v x d, VR G w v x → f v = some d → RdOk h m x d) {vs : List V} {xs : List Value} (r : VRs G w vs xs) :
    ∀ {ds : List PyData}, mapO f vs = some ds → (∃ as, ReadsAll h xs ds as) ∧ PyData.canLayAll0 ds = true ∧ PyData.depthAll ds ≤ m := by
  induction r with
  | nil => intro ds e; cases e; exact ⟨⟨_, .nil⟩, rfl, Nat.zero_le _⟩
  | cons a _ ihr =>
    intro ds e
    obtain ⟨b, h1, e⟩ := onO_inv e
    obtain ⟨bs, h2, e⟩ := onO_inv e
    cases e
    obtain ⟨⟨as, q1⟩, q2, q3⟩ := ih _ _ _ a h1
    obtain ⟨⟨bs', p1⟩, p2, p3⟩ := ihr h2
    exact ⟨⟨_, .cons q1 p1⟩, Bool.and_eq_true_iff.mpr ⟨q2, p2⟩, Nat.max_le.mpr ⟨q3, p3⟩⟩
theorem flat_reads {h : Heap} {v : V} {d : PyData} {m : Nat} (hv : VR G w v x) (e : flatD v = some d) : RdOk h m x d := by
  cases v with
  | none => cases hv; cases e; exact ⟨⟨_, .none⟩, rfl, Nat.zero_le _⟩
  | bool => cases hv; cases e; exact ⟨⟨_, .bool _⟩, rfl, Nat.zero_le _⟩
  | int => cases hv; cases e; exact ⟨⟨_, .int _ _⟩, rfl, Nat.zero_le _⟩
  | str => obtain ⟨t, rfl, k⟩ := hv.strv; cases e; exact ⟨⟨_, .str _ _⟩, (sOk_iff.mp k).1, Nat.zero_le _⟩
  | _ => exact no e
theorem seqD_reads {h : Heap} (S : SR G w σ h) {m : Nat} (ih : ∀ v x d, VR G w v x → dataOf σ m v = some d → RdOk h m x d) {v : V} {d : PyData} (hv : VR G w v x) (e : seqD (mapO (dataOf σ m)) σ v = some d) : RdOk h (m + 1) x d := by
  cases v with
  | tup vs =>
    obtain ⟨ds, e', rfl⟩ := Option.map_eq_some_iff.mp e
    cases hv with
    | tup e1 e2 e3 e4 _ => obtain ⟨⟨as, q⟩, q2, q3⟩ := mapO_reads ih e4 e'; exact ⟨⟨_, .tuple (S.at e1) e2 e3 q⟩, q2, Nat.succ_le_succ q3⟩
  | lst vs =>
    obtain ⟨ds, e', rfl⟩ := Option.map_eq_some_iff.mp e
    cases hv with
    | lst e1 e2 e3 e4 _ => obtain ⟨⟨as, q⟩, q2, q3⟩ := mapO_reads ih e4 e'; exact ⟨⟨_, .list (S.at e1) e2 e3 q⟩, q2, Nat.succ_le_succ q3⟩
  | ref i =>
    obtain ⟨p, hp, rfl⟩ := hv.refv
    obtain ⟨vs, hg, e⟩ := onO_inv e
    obtain ⟨lk, hg⟩ := listAt_inv hg
    obtain ⟨ds, e', rfl⟩ := Option.map_eq_some_iff.mp e
    obtain ⟨q, hq, _, xs, k, r1, _, r2, _⟩ := S.obj _ _ hg
    rw [hp] at hq; cases hq
    obtain ⟨⟨as, q⟩, q2, q3⟩ := mapO_reads ih r2 e'
    exact ⟨⟨_, .list r1 rfl rfl q⟩, q2, Nat.succ_le_succ q3⟩
  | _ => exact no e
theorem reads_of {h : Heap} (S : SR G w σ h) (m : Nat) : ∀ (v : V) (x : Value) (d : PyData), VR G w v x → dataOf σ m v = some d → RdOk h m x d := by
  induction m with
  | zero => exact fun v x d hv e => flat_reads hv e
  | succ m ih => exact fun v x d hv e => (orElse_inv e).elim (flat_reads hv) (seqD_reads S ih hv)
theorem eqV_sound {a b : V} {t : Bool} (S : SR G w σ s.heap) (hu : A.units + 64 < 9900) (ha : VR G w a x) (hb : VR G w b y) (ht : eqV σ a b = some t) :
    (Q (.bool t) s → wpAny G.M A (compareOp .Eq x y) Q Ex s) ∧ (Q (.bool (!t)) s → wpAny G.M A (compareOp .NotEq x y) Q Ex s) := by
  obtain ⟨da, h1, ht⟩ := onO_inv ht
  obtain ⟨db, h2, ht⟩ := onO_inv ht
  cases ht
  obtain ⟨⟨as, r1⟩, c1, d1⟩ := reads_of S _ _ _ _ ha h1
  obtain ⟨⟨bs, r2⟩, c2, d2⟩ := reads_of S _ _ _ _ hb h2
  have sh : ∀ {d : PyData}, d.canLay0 = true → d.depth ≤ 6 → SeqAt.shaped d = true := fun c k => Bool.and_eq_true_iff.mpr ⟨c, decide_eq_true (Nat.le_trans k (by decide))⟩
  exact ⟨SeqAt.compareEq_shaped r1 r2 (sh c1 d1) (sh c2 d2) hu, SeqAt.compareNe_shaped r1 r2 (sh c1 d1) (sh c2 d2) hu⟩
theorem lk_valueAt {κ : Type} [DecidableEq κ] {es : List (κ × V)} {kvs : List (κ × Value)} (r : ER G w es kvs) (k : κ) :
    (∀ v, lk es k = some v → ∃ x, valueAt kvs k = some x ∧ VR G w v x) ∧ (lk es k = none → valueAt kvs k = none) := by
  induction r with
  | nil => exact ⟨fun v e => (nomatch e), fun _ => rfl⟩
  | @cons a b es kvs hv _ ih =>
    obtain ⟨k', v⟩ := a
    obtain ⟨k'', x⟩ := b
    obtain ⟨e, hv⟩ := hv
    simp only at e hv
    subst e
    by_cases h : k'' = k
    · rw [show lk ((k'', v) :: es) k = some v by simp [lk, h], show valueAt ((k'', x) :: kvs) k = some x by simp [valueAt, h]]
      exact ⟨fun u e => ⟨x, rfl, Option.some.inj e ▸ hv⟩, fun e => (nomatch e)⟩
    · rw [show lk ((k'', v) :: es) k = lk es k by simp [lk, h], show valueAt ((k'', x) :: kvs) k = valueAt kvs k by simp [valueAt, h]]; exact ih
theorem lk_isSome {κ : Type} [DecidableEq κ] {es : List (κ × V)} {kvs : List (κ × Value)} (r : ER G w es kvs) (k : κ) : (valueAt kvs k).isSome = (lk es k).isSome := by
  obtain ⟨h1, h2⟩ := lk_valueAt r k
  cases e : lk es k with
  | none => rw [h2 e]; rfl
  | some v => obtain ⟨x, q, _⟩ := h1 v e; rw [q]; rfl
theorem ne_beq {a b : Addr} (h : a ≠ b) : (a == b) = false := by simpa using h
theorem isInt_self (k : Int) (tk : Tok) : (intKind G.prog G.ω).is k (.int k tk) = true := by show Value.isInt k (.int k tk) = true; simp [Value.isInt]
noncomputable def InOk (G : Gl) (A : Around) (s : Shared) (x y : Value) (t : Bool) : Prop := ∀ (Q : Value → Shared → Prop) (Ex : Value → Shared → Prop),
    ((∀ tk, Q (.bool t) { s with toks := tk }) → wpAny G.M A (compareOp .In x y) Q Ex s) ∧ ((∀ tk, Q (.bool (!t)) { s with toks := tk }) → wpAny G.M A (compareOp .NotIn x y) Q Ex s)
theorem inL_sound {a : V} {vs : List V} {p : Addr} {xs : Array Value} {t : Bool} (S : SR G w σ s.heap) (hu : A.units + 64 < 9900) (ha : VR G w a x) (hl : s.heap.IsList p xs) (r2 : VRs G w vs xs.toList) (ht : inL σ a vs = some t) : InOk G A s x (.ref p) t := by
  obtain ⟨o, r1, hc, k, hd⟩ := hl
  obtain ⟨ds, h1, ht⟩ := onO_inv ht
  obtain ⟨d, h2, ht⟩ := onO_inv ht
  cases ht
  obtain ⟨⟨as, q1⟩, c1, d1⟩ := mapO_reads (reads_of S 5) r2 h1
  obtain ⟨⟨bs, q2⟩, c2, d2⟩ := reads_of S _ _ _ _ ha h2
  have hu' : A.units + 1 + min (PyData.depthAll ds) d.depth < cLine := Nat.lt_of_le_of_lt (Nat.add_le_add_left (Nat.le_trans (Nat.min_le_left ..) d1) _) (Nat.lt_of_le_of_lt (by omega) hu)
  exact fun Q Ex => ⟨fun h => SeqAt.in_list_reads (.list r1 hc hd q1) q2 c1 c2 hu' (h s.toks), fun h => SeqAt.notIn_list_reads (.list r1 hc hd q1) q2 c1 c2 hu' (h s.toks)⟩
theorem inD_sound {κ : Type} [DecidableEq κ] {knd : PySem.KeyKind G.prog G.ω κ} {k : κ} {l : Bool} {i : Nat} {es : List (κ × V)} {p : Addr × Addr} (hk : knd.is k x = true) (r : DRel G w s.heap i p knd l es) : InOk G A s x (.ref p.1) (lk es k).isSome :=
  let ⟨_, o, _, r1, _, r2, r3, _, r4⟩ := r
  have hm := (Heap.dictOf_iff.mpr ⟨o, r1, r2⟩).mapOf
  fun Q Ex => ⟨fun h => wpAny_in_of hk (ne_beq r4) hm (by rw [lk_isSome r3]; exact h _), fun h => wpAny_notIn_of hk (ne_beq r4) hm (by rw [lk_isSome r3]; exact h _)⟩
theorem inV_sound {a b : V} {t : Bool} (S : SR G w σ s.heap) (hu : A.units + 64 < 9900) (ha : VR G w a x) (hb : VR G w b y) (ht : inV σ a b = some t) : InOk G A s x y t := by
  cases b with
  | ref i =>
    obtain ⟨p, hp, rfl⟩ := hb.refv
    obtain ⟨o, hg, ht⟩ := onO_inv ht
    obtain ⟨q, hq, r⟩ := S.obj _ _ hg
    rw [hp] at hq; cases hq
    cases o with
    | di l es =>
      obtain ⟨k, rfl, ht⟩ := withInt_inv ht
      obtain ⟨tk, rfl⟩ := ha.intv
      cases ht
      exact inD_sound (isInt_self _ _) r
    | ds l es =>
      obtain ⟨k, rfl, ht⟩ := withStr_inv ht
      obtain ⟨tk, rfl, _⟩ := ha.strv
      cases ht
      exact inD_sound (strKind_is _ _ _ _) r.1
    | list l vs =>
      obtain ⟨_, xs, k, r1, _, r2, _⟩ := r
      exact inL_sound S hu ha ⟨_, r1, rfl, _, rfl⟩ r2 ht
    | inst => exact no ht
  | lst vs => obtain ⟨a, xs, rfl, hl, va, _⟩ := hb.lstv S; exact inL_sound S hu ha hl va ht
  | _ => exact no ht
theorem cmpV_sound {op : COp} {a b : V} {t : Bool} (S : SR G w σ s.heap) (hu : A.units + 64 < 9900) (ha : VR G w a x) (hb : VR G w b y) (ht : cmpV σ op a b = some t)
    (h : ∀ tk, Q (.bool t) { s with toks := tk }) : wpAny G.M A (compareOp (copOf op) x y) Q Ex s := by
  have two : ∀ {k : Int → Int → Bool} {C : Prop}, cmpI a b k = some t → (∀ i j u v, x = .int i u → y = .int j v → Q (.bool (k i j)) s → C) → C := fun e q => by
    obtain ⟨i, j, rfl, rfl, rfl⟩ := cmpI_inv e
    obtain ⟨u, hu⟩ := ha.intv
    obtain ⟨v, hv⟩ := hb.intv
    exact q i j u v hu hv (h s.toks)
  cases op with
  | lt => exact two ht fun i j u v e1 e2 h => by subst e1 e2; exact PyProof.Rows.lt_int h
  | le => exact two ht fun i j u v e1 e2 h => by subst e1 e2; exact PyProof.Rows.le_int h
  | gt => exact two ht fun i j u v e1 e2 h => by subst e1 e2; exact PySem.P.gt_int h
  | ge => exact two ht fun i j u v e1 e2 h => by subst e1 e2; exact PySem.P.ge_int h
  | eq => exact (eqV_sound S hu ha hb ht).1 (h s.toks)
  | ne => obtain ⟨t', e, rfl⟩ := Option.map_eq_some_iff.mp ht; exact (eqV_sound S hu ha hb e).2 (h s.toks)
  | isin => exact (inV_sound S hu ha hb ht Q Ex).1 h
  | notin => obtain ⟨t', e, rfl⟩ := Option.map_eq_some_iff.mp ht; exact (inV_sound S hu ha hb e Q Ex).2 h
theorem Pt.u64 (X : Pt G n cx) : X.A.units + 64 < 9900 := Nat.lt_of_le_of_lt (by omega) X.hA.units
theorem marks_of {op : CmpOp} {e : Expr} (h : notSetE e = true) : behindInMarks op e = false := by
  cases e <;> first | rfl | exact noB h
theorem sim_cmp {op : COp} {a b : E} {l r : Expr} {pos : Pos} (hns : notSetE r = true) (ha : Sim G n cx a l) (hb : Sim G n cx b r) : Sim G n cx (.cmp op a b) (.Compare l [copOf op] [r] pos) := by
  have core : ∀ (X : Pt G n cx) (rr : Res V) (σ' : St) (R : Value → Shared → Prop), X.ev (.cmp op a b) = some (rr, σ') → (∀ t w' s', Post G X.w X.s w' σ' s' → rr = .ok (.bool t) → R (.bool t) s') →
      wpAny G.M X.A (eval l X.env) (fun x s₁ => wpAny G.M X.A (eval r X.env) (fun y s₂ => wpAny G.M X.A (compareOp (copOf op) x y) R (QX G X.w X.s X.envs rr σ') s₂) (QX G X.w X.s X.envs rr σ') s₁) (QX G X.w X.s X.envs rr σ') X.s :=
    fun X rr σ' R hev hR => ha.bind X .refl hev fun x xv w₁ σ₁ s₁ p hx hk => hb.bind (X.to p) p.ahead hk fun y yv w₂ σ₂ s₂ q hy hk => by
      obtain ⟨t, ht, e⟩ := Option.map_eq_some_iff.mp hk
      cases e
      exact cmpV_sound q.S X.u64 (hx.mono q.hw.sub) hy ht fun tk => hR t w₂ _ ((p.ahead.step q).post q.S.postH) rfl
  exact ⟨fun X rr σ' hev => wpAny_Compare1 (core X rr σ' _ hev fun t w' s' p e => by subst e; exact ⟨w', p, .bool _⟩) (marks_of hns),
    fun X rr σ' hev _ => wpAny_isTrue_Compare1 (core X rr σ' _ hev fun t w' s' p e => by subst e; exact wpAny_truthy_bool ⟨w', p, rfl⟩) (marks_of hns)⟩
theorem none_eq {a : V} {x : Value} (h : VR G w a x) : (x == Value.none) = a.isNone := by cases h <;> rfl
theorem sim_isNone {a : E} {l : Expr} {k : Nat} {q pos : Pos} (ha : Sim G n cx a l) : Sim G n cx (.isNone a) (.Compare l [.Is] [.Constant .none k q] pos) :=
  ⟨fun X r σ' hev => wpAny_Compare1 (ha.bind X .refl hev fun x xv w₁ σ₁ s₁ p hx hk => ok_inv hk (wpAny_Constant_none (is_none ⟨w₁, p, none_eq hx ▸ .bool _⟩))),
   fun X r σ' hev _ => wpAny_isTrue_Compare1 (ha.bind X .refl hev fun x xv w₁ σ₁ s₁ p hx hk => ok_inv hk (wpAny_Constant_none (is_none (wpAny_truthy_bool ⟨w₁, p, congrArg some (none_eq hx).symm⟩))))⟩
theorem sim_notNone {a : E} {l : Expr} {k : Nat} {q pos : Pos} (ha : Sim G n cx a l) : Sim G n cx (.notNone a) (.Compare l [.IsNot] [.Constant .none k q] pos) :=
  ⟨fun X r σ' hev => wpAny_Compare1 (ha.bind X .refl hev fun x xv w₁ σ₁ s₁ p hx hk => ok_inv hk (wpAny_Constant_none (isNot_none ⟨w₁, p, none_eq hx ▸ .bool _⟩))),
   fun X r σ' hev _ => wpAny_isTrue_Compare1 (ha.bind X .refl hev fun x xv w₁ σ₁ s₁ p hx hk => ok_inv hk (wpAny_Constant_none (isNot_none (wpAny_truthy_bool ⟨w₁, p, congrArg (fun b => some (!b)) (none_eq hx).symm⟩))))⟩
theorem Sim.bindT {a : E} {e : Expr} {α : Type} {r : Res α} {k : V → St → Option (Res α × St)} {R : Bool → Shared → Prop} (ha : Sim G n cx a e) (X : Pt G n cx) (A0 : Ahead w₀ s₀ X.w X.s) (hev : bindM (X.ev a) k = some (r, σ'))
    (ht : ∀ x σ₁, k x σ₁ = some (r, σ') → ∃ t, truthV σ₁ x = some t) (hk : ∀ x t w₁ σ₁ s₁ (_ : Post G X.w X.s w₁ σ₁ s₁), truthV σ₁ x = some t → k x σ₁ = some (r, σ') → R t s₁) :
    wpAny G.M X.A (isTrue e X.env (eval e X.env)) R (QX G w₀ s₀ X.envs r σ') X.s := by
  cases h1 : X.ev a with
  | none => rw [h1] at hev; exact no hev
  | some q =>
    rw [h1] at hev
    obtain ⟨x | x, σ₁⟩ := q
    · exact wpAny_mono (ha.t X _ _ h1 fun _ q => by cases q; exact ht _ _ hev) (fun v s₁ ⟨w₁, p, hv⟩ => hk _ _ _ _ _ p hv hev) fun _ _ q => q.elim
    · cases hev
      exact wpAny_mono (ha.t X _ _ h1 fun _ q => by cases q) (fun _ _ q => q.elim) fun _ _ q => q.mono A0
theorem not_inv {σ₁ σ' : St} {x : V} {r : Res V} (h : retB ((truthV σ₁ x).map (!·)) σ₁ = some (r, σ')) : ∃ t, truthV σ₁ x = some t ∧ r = .ok (.bool (!t)) ∧ σ' = σ₁ := by
  obtain ⟨t, ht, e⟩ := Option.map_eq_some_iff.mp h
  obtain ⟨t', ht', rfl⟩ := Option.map_eq_some_iff.mp ht
  cases e
  exact ⟨t', ht', rfl, rfl⟩
theorem sim_not {a : E} {l : Expr} {pos : Pos} (ha : Sim G n cx a l) : Sim G n cx (.not a) (.UnaryOp .Not l pos) := by
  refine ⟨fun X r σ' hev => wpAny_UnaryOp (ha.bind X .refl hev fun x xv w₁ σ₁ s₁ p hx hk => ?_), fun X r σ' hev _ => wpAny_isTrue_Not (ha.bindT X .refl hev (fun x σ₁ hk => let ⟨t, ht, _⟩ := not_inv hk; ⟨t, ht⟩) fun x t w₁ σ₁ s₁ p ht hk => ?_)⟩
  · obtain ⟨t, ht, rfl, rfl⟩ := not_inv hk
    exact not_value (truthV_sound hx ht ⟨w₁, p, .bool _⟩)
  · obtain ⟨t', ht', rfl, rfl⟩ := not_inv hk
    rw [ht] at ht'; cases ht'
    exact ⟨w₁, p, rfl⟩
theorem sim_neg {a : E} {l : Expr} {pos : Pos} (ha : Sim G n cx a l) : Sim G n cx (.neg a) (.UnaryOp .USub l pos) :=
  .of (fun X r σ' hev => wpAny_UnaryOp (ha.bind X .refl hev fun x xv w₁ σ₁ s₁ p hx hk => retV_inv hk fun z hz => by
    obtain ⟨i, rfl, hz⟩ := withInt_inv hz
    obtain ⟨t, rfl⟩ := hx.intv
    cases hz
    exact PySem.P.neg_int (p.ahead.out p.S.outI))) fun _ _ => rfl
end
end Lw
namespace Lw
open PySem PySem.W PySem.Calls PyProof.Rows
abbrev Sims (G : Gl) (n : Nat) (cx : Cxt) : List E → List Expr → Prop := All2 fun a e => notStar e = true ∧ Sim G n cx a e
noncomputable def opB (isAnd : Bool) : BoolOp := if isAnd then .And else .Or
section
variable {G : Gl} {n : Nat} {cx : Cxt} {w w' w₀ : Wd} {s s' s₀ : Shared} {σ σ' : St} {A : Around} {env : Env} {Ex : Value → Shared → Prop} {Q : Value → Shared → Prop} {x y : Value} {isAnd : Bool} {pos : Pos}
theorem boolOp_more {x y : Sem Value} {rest : List (Sem Value)}
    (h : wpAny G.M A x (fun v s₁ => wpAny G.M A (truthy v) (fun t s₂ => if t = isAnd then wpAny G.M A (boolOp pos (opB isAnd) (y :: rest)) Q Ex s₂ else Q v s₂) Ex s₁) Ex s) :
    wpAny G.M A (boolOp pos (opB isAnd) (x :: y :: rest)) Q Ex s := by
  show wpAny G.M A (do
    let v ← x
    standAt pos
    let t ← holding [v] (truthy v)
    match opB isAnd, t with
    | .And, false | .Or, true => pure v
    | _, _ => boolOp pos (opB isAnd) (y :: rest)) Q Ex s
  refine wpAny_bind (wpAny_mono h (fun v s₁ q => wpAny_bind (wpAny_standAt (wpAny_bind (wpAny_holding (wpAny_mono q (fun t s₂ q => ?_) fun _ _ q => q))))) fun _ _ q => q)
  cases isAnd <;> cases t <;> first | exact q | exact wpAny_pure q
theorem allTrue_more {x : Expr} {rest : List Expr} {Q : Bool → Shared → Prop}
    (h : wpAny G.M A (isTrue x env (eval x env)) (fun t s₁ => if t = isAnd then wpAny G.M A (allTrue (opB isAnd) rest env) Q Ex s₁ else Q t s₁) Ex s) : wpAny G.M A (allTrue (opB isAnd) (x :: rest) env) Q Ex s := by
  cases isAnd
  · exact wpAny_allTrue_Or_cons (wpAny_mono h (fun t s₁ q => by cases t <;> exact q) fun _ _ q => q)
  · exact wpAny_allTrue_And_cons (wpAny_mono h (fun t s₁ q => by cases t <;> exact q) fun _ _ q => q)
theorem allTrue_nil {Q : Bool → Shared → Prop} (h : Q isAnd s) : wpAny G.M A (allTrue (opB isAnd) [] env) Q Ex s := by
  cases isAnd <;> exact wpAny_pure h
noncomputable def Pt.evBool (X : Pt G n cx) (isAnd : Bool) (es : List E) : RV := Lw.evBool G.P (run G.P n) X.hd isAnd es X.ρ X.σ
theorem evBool_sound {es : List E} {vs : List Expr} (hes : Sims G n cx es vs) :
    ∀ (X : Pt G n cx) (r : Res V), Ahead w₀ s₀ X.w X.s → X.evBool isAnd es = some (r, σ') → wpAny G.M X.A (boolOp pos (opB isAnd) (evalEach vs X.env)) (QV G (VR G) w₀ s₀ r σ') (QX G w₀ s₀ X.envs r σ') X.s := by
  induction hes with
  | nil => exact fun X r _ hev => no hev
  | cons ha hr ih =>
    intro X r A0 hev
    cases hr with
    | nil => exact ha.2.bind X A0 hev fun x xv w₁ σ₁ s₁ p hx hk => ok_inv hk ⟨w₁, A0.post p, hx⟩
    | cons hb hr =>
      refine boolOp_more (ha.2.bind X A0 hev fun x xv w₁ σ₁ s₁ p hx hk => ?_)
      obtain ⟨t, ht, hk⟩ := onO_inv hk
      refine truthV_sound hx ht ?_
      by_cases q : t = isAnd
      · rw [if_pos q] at hk ⊢; exact ih (X.to p) r (A0.step p) hk
      · rw [if_neg q] at hk ⊢; exact ok_inv hk ⟨w₁, A0.post p, hx⟩
theorem evBool_test {es : List E} {vs : List Expr} (hes : Sims G n cx es vs) :
    ∀ (X : Pt G n cx) (r : Res V), Ahead w₀ s₀ X.w X.s → X.evBool isAnd es = some (r, σ') → (∀ a, r = .ok a → ∃ t, truthV σ' a = some t) →
      wpAny G.M X.A (allTrue (opB isAnd) vs X.env) (QV G (fun _ a t => truthV σ' a = some t) w₀ s₀ r σ') (QX G w₀ s₀ X.envs r σ') X.s := by
  induction hes with
  | nil => exact fun X r _ hev _ => no hev
  | cons ha hr ih =>
    intro X r A0 hev ht
    cases hr with
    | nil =>
      refine allTrue_more (ha.2.bindT X A0 hev (fun x σ₁ hk => by cases hk; exact ht _ rfl) fun x t w₁ σ₁ s₁ p htx hk => ?_)
      cases hk
      by_cases q : t = isAnd
      · rw [if_pos q]; exact allTrue_nil (q ▸ ⟨w₁, A0.post p, htx⟩)
      · rw [if_neg q]; exact ⟨w₁, A0.post p, htx⟩
    | cons hb hr =>
      refine allTrue_more (ha.2.bindT X A0 hev (fun x σ₁ hk => let ⟨t, ht, _⟩ := onO_inv hk; ⟨t, ht⟩) fun x t w₁ σ₁ s₁ p htx hk => ?_)
      obtain ⟨t', ht', hk⟩ := onO_inv hk
      rw [htx] at ht'; cases ht'
      by_cases q : t = isAnd
      · rw [if_pos q] at hk ⊢; exact ih (X.to p) r (A0.step p) hk ht
      · rw [if_neg q] at hk ⊢; cases hk; exact ⟨w₁, A0.post p, htx⟩
theorem sim_bool {es : List E} {vs : List Expr} (h : Sims G n cx es vs) : Sim G n cx (.bool isAnd es) (.BoolOp (opB isAnd) vs pos) :=
  ⟨fun X r _ hev => evBool_sound h X r .refl hev, fun X r _ hev ht => wpAny_isTrue_BoolOp (evBool_test h X r .refl hev ht)⟩
noncomputable def Pt.evs (X : Pt G n cx) (es : List E) : Option (Res (List V) × St) := Lw.evs G.P (run G.P n) X.hd es X.ρ X.σ
theorem star_plain {e : Expr} {rest : List Expr} (h : notStar e = true) : starEach (e :: rest) env = (false, eval e env) :: starEach rest env := by
  cases e <;> first | rfl | exact noB h
theorem evs_assoc {α : Type} {a : E} {r' : List E} {k : List V → St → Option (Res α × St)} (X : Pt G n cx) : bindM (X.evs (a :: r')) k = bindM (X.ev a) fun x σ => bindM (Lw.evs G.P (run G.P n) X.hd r' X.ρ σ) fun xs σ => k (x :: xs) σ := by
  show bindM (bindM (X.ev a) _) k = _
  cases X.ev a with
  | none => rfl
  | some q =>
    obtain ⟨x | x, σ₁⟩ := q
    · show bindM (bindM (Lw.evs _ _ _ r' _ σ₁) _) k = bindM (Lw.evs _ _ _ r' _ σ₁) _
      cases Lw.evs G.P (run G.P n) X.hd r' X.ρ σ₁ with
      | none => rfl
      | some q => obtain ⟨_ | _, _⟩ := q <;> rfl
    · rfl
theorem Sims.bind {es : List E} {xs : List Expr} (hes : Sims G n cx es xs) : ∀ {α : Type} {k : List V → St → Option (Res α × St)} {r : Res α} {R : List Value → Shared → Prop} (X : Pt G n cx), Ahead w₀ s₀ X.w X.s → bindM (X.evs es) k = some (r, σ') →
    (∀ x xv w₁ σ₁ s₁ (_ : Post G X.w X.s w₁ σ₁ s₁), VRs G w₁ x xv → k x σ₁ = some (r, σ') → R xv s₁) → wpAny G.M X.A (spliced (backTo pos (starEach xs X.env))) R (QX G w₀ s₀ X.envs r σ') X.s := by
  induction hes with
  | nil => exact fun X A0 hev hk => wpAny_items_nil (hk _ _ _ _ _ X.S.post .nil hev)
  | cons ha hr ih => exact fun X A0 hev hk => wpAny_items_cons (ha.2.bind X A0 (evs_assoc X ▸ hev) fun x xv w₁ σ₁ s₁ p hx h1 => ih (X.to p) (A0.step p) h1 fun y yv w₂ σ₂ s₂ q hy h2 => hk _ _ _ _ _ (p.ahead.post q) (.cons (hx.mono q.hw.sub) hy) h2) (star_plain ha.1)
theorem Base.sys {h : Heap} {D : Addr} (B : Base G w) (S : SR G w σ h) (hD : ∀ b o, h.get? b = some o → b < D) : D ≠ sysModules := by
  obtain ⟨o, e, _⟩ := B.g
  have h2 := hD _ _ (S.at e)
  intro q; subst q
  revert h2; decide
theorem mkL_inv {mt : Bool} {vs : List V} {r : Res V} (h : mkL mt vs σ = some (r, σ')) : (r = .ok (.ref σ.n) ∧ σ' = σ.new (.list false vs)) ∨ (r = .ok (.lst vs) ∧ σ' = σ) := by
  cases mt <;> cases h
  · exact .inr ⟨rfl, rfl⟩
  · exact .inl ⟨rfl, rfl⟩
theorem SR.refNew (S : SR G w σ s.heap) {p : Addr × Addr} : VR G (w.new p) (.ref σ.n) (.ref p.1) := .ref (by rw [S.n]; exact Wd.new_at)
theorem mkL_at {mt : Bool} {vs : List V} {out : Array Value} {r : Res V} {h' : Heap} {D : Addr} {e tk : Nat} (S : SR G w σ s.heap) (hv : VRs G w vs out.toList) (hl : vs.length ≤ lim) (hm : mkL mt vs σ = some (r, σ'))
    (hn : s.heap.get? D = none) (k : ∀ b o, s.heap.get? b = some o → h'.get? b = some o) (hD : h'.get? D = some (listObj out e)) : QV G (VR G) w s r σ' (.ref D) { s with heap := h', toks := tk } := by
  rcases mkL_inv hm with ⟨rfl, rfl⟩ | ⟨rfl, rfl⟩
  · have le := Wd.new_lt (p := (D, D)) S hn hn
    exact ⟨_, ⟨.of _ _ _, le, S.alloc (p := (D, D)) hn hn k ⟨_, hD⟩ ⟨_, hD⟩ ⟨rfl, out, e, hD, Wd.new_1 (p := (D, D)), hv.mono le.sub, hl⟩⟩, S.refNew⟩
  · have le := Wd.le_set (x := .fix (listObj out e)) (S.fresh hn)
    exact ⟨_, ⟨.of _ _ _, le, S.put hn k hD⟩, .lst Wd.set_at rfl rfl (hv.mono le.sub) hl⟩
theorem mkL_new {mt : Bool} {vs : List V} {out : Array Value} {r : Res V} {e tk : Nat} (S : SR G w σ s.heap) (hv : VRs G w vs out.toList) (hl : vs.length ≤ lim) (hm : mkL mt vs σ = some (r, σ')) :
    QV G (VR G) w s r σ' (.ref s.heap.objs.size) { s with heap := s.heap.push (listObj out e), toks := tk } := mkL_at S hv hl hm (get_size _) (push_keeps _ _) (Heap.get?_push_size _ rfl)
theorem Ahead.qv {α β : Type} {R : Wd → α → β → Prop} {r : Res α} {v : β} (A0 : Ahead w₀ s₀ w s) (h : QV G R w s r σ' v s') : QV G R w₀ s₀ r σ' v s' := by
  cases r with
  | ok a => exact A0.out h
  | exc => exact h
theorem toArr (xs : List Value) : xs.toArray.toList = xs := rfl
theorem sim_list {mt : Bool} {es : List E} {vs : List Expr} (h : Sims G n cx es vs) : Sim G n cx (.list mt es) (.List vs pos) :=
  .of (fun X r σ' hev => wpAny_List (h.bind X .refl hev fun x xv w₁ σ₁ s₁ p hx hk =>
    have hk := if_inv hk
    ⟨All2.length hx ▸ lim_size0 hk.1, p.ahead.qv (mkL_new (out := xv.toArray) (tk := s₁.toks) p.S hx hk.1 hk.2)⟩)) fun _ _ => rfl
theorem sim_tup {es : List E} {vs : List Expr} {k : Nat} (h : Sims G n cx es vs) : Sim G n cx (.tup es) (.Tuple vs k pos) :=
  .of (fun X r σ' hev => wpAny_Tuple (h.bind X .refl hev fun x xv w₁ σ₁ s₁ p hx hk => by
    obtain ⟨hl, hk⟩ := if_inv hk
    cases hk
    exact ⟨All2.length hx ▸ lim_size0 hl, p.ahead.out (p.S.freeze (tk := s₁.toks) (.tup Wd.set_at rfl rfl (VRs.mono (Wd.le_set (p.S.fresh (get_size _))).sub hx) hl) rfl)⟩)) fun _ _ => rfl
end
end Lw
namespace Lw
open PySem PySem.W PySem.Calls PyProof.Rows
theorem map_inj : ∀ (x y : List Char), x.map Char.toNat = y.map Char.toNat → x = y
  | [], [], _ => rfl
  | [], _ :: _, h => nomatch h
  | _ :: _, [], h => nomatch h
  | c :: r, d :: t, h => by
    rw [List.map_cons, List.map_cons, List.cons.injEq] at h
    rw [show c = d from Char.ext (UInt32.toNat_inj.mp h.1), map_inj r t h.2]
theorem ofString_inj {a b : String} (h : Str.ofString a = Str.ofString b) : a = b := by
  rw [Str.ofString_eq_toList, Str.ofString_eq_toList] at h
  exact String.toList_inj.mp (map_inj _ _ (congrArg (fun x : Str => x.cps.toList) h))
theorem ofString_ne {a b : String} (h : a ≠ b) : (Str.ofString a == Str.ofString b) = false := beq_eq_false_iff_ne.mpr fun q => h (ofString_inj q)
section
variable {G : Gl} {n : Nat} {cx : Cxt} {w w' w₀ : Wd} {s s' s₀ : Shared} {σ σ' : St} {A : Around} {env : Env} {Ex : Value → Shared → Prop} {Q : Value → Shared → Prop} {x y : Value} {pos : Pos}
theorem wpAny_attributeBase {o : Expr} {attr : Str} {whole : Sem Value} (hs : notSuper o = true) (h : wpAny G.M A whole Q Ex s) : wpAny G.M A (attributeBase o attr env whole) Q Ex s := by
  cases o with
  | Call f as ks p =>
    cases f with
    | Name id q =>
      cases as with
      | nil =>
        cases ks with
        | nil =>
          have hid : (!(id == ("super" : Str))) = true := hs
          have h1 : (id != ("super" : Str) || attr == "__class__" || env.kindOf "super" != some .globalImplicit || env.kindOf "__class__" != some .free) = true := by
            rw [show (id != ("super" : Str)) = true from hid]; rfl
          have e : attributeBase (.Call (.Name id q) [] [] p) attr env whole = whole := by
            unfold attributeBase
            exact if_pos h1
          rw [e]; exact h
        | cons => exact h
      | cons => exact h
    | _ => exact h
  | _ => exact h
theorem wpAny_Attr {value : Expr} {attr : Str} (hs : notSuper value = true)
    (h : wpAny G.M A (eval value env) (fun o s₁ => wpAny G.M A (getAttr o attr true) Q Ex s₁) Ex s) : wpAny G.M A (eval (.Attribute value attr pos) env) Q Ex s := by
  show wpAny G.M A (do
    let o ← attributeBase value attr env (eval value env)
    standAt pos.atName
    let r ← holding [o] (getAttr o attr true)
    letTemporaryGo value o r
    pure r) Q Ex s
  exact wpAny_bind (wpAny_attributeBase hs (wpAny_mono h (fun o s₁ q => wpAny_bind (wpAny_standAt (wpAny_bind (wpAny_holding (wpAny_mono q (fun r s₂ q => wpAny_bind (wpAny_letTemporaryGo (wpAny_pure q))) fun _ _ q => q))))) fun _ _ q => q))
theorem fs_norf {fs : List (String × V)} {es : List DictEntry} (r : FsR G w fs es) : es.any (·.refKey) = false := by
  induction r with
  | nil => rfl
  | cons a _ ih => obtain ⟨t, x, rfl, _⟩ := a; rw [List.any_cons, ih]; rfl
theorem fs_find {fs : List (String × V)} {es : List DictEntry} (r : FsR G w fs es) (a : String) :
    (∀ v, lk fs a = some v → ∃ e, es.find? (fun e => e.key.isStr (Str.ofString a)) = some e ∧ VR G w v e.val) ∧ (lk fs a = none → es.find? (fun e => e.key.isStr (Str.ofString a)) = none) := by
  induction r with
  | nil => exact ⟨fun v e => (nomatch e), fun _ => rfl⟩
  | @cons bv d fs es hv _ ih =>
    obtain ⟨b, v⟩ := bv
    obtain ⟨t, x, rfl, hv⟩ := hv
    by_cases h : b = a
    · subst h
      have e1 : lk ((b, v) :: fs) b = some v := by simp [lk]
      rw [e1, List.find?_cons_of_pos (by simp [Value.isStr])]
      exact ⟨fun u e => ⟨_, rfl, Option.some.inj e ▸ hv⟩, fun e => (nomatch e)⟩
    · have e1 : lk ((b, v) :: fs) a = lk fs a := by simp [lk, h]
      rw [e1, List.find?_cons_of_neg (by simp only [Value.isStr, ofString_ne h]; exact Bool.false_ne_true)]; exact ih
theorem fs_look {fs : List (String × V)} {es : List DictEntry} {k : Nat} (r : FsR G w fs es) (a : String) :
    (∀ v, lk fs a = some v → ∃ x, lookIn (Str.ofString a) (dictOf es k) = some (some x) ∧ VR G w v x) ∧ (lk fs a = none → lookIn (Str.ofString a) (dictOf es k) = some none) := by
  refine ⟨fun v e => ?_, fun e => ?_⟩
  · obtain ⟨d, q, hv⟩ := (fs_find r a).1 v e
    refine ⟨d.val, ?_, hv⟩
    unfold lookIn dictOf
    simp only [q]
  · unfold lookIn dictOf
    simp only [(fs_find r a).2 e]
    rw [fs_norf r]; rfl
theorem VR.handed {a : V} (h : VR G w a x) : handedIn x = true := by cases h <;> rfl
structure ClsOk (K : Frag) (attrs : List String) (C : Addr) : Prop where
  ga : findIn K (.ref C) "__getattribute__" = some (some (.builtin "object.__getattribute__"))
  gt : findIn K (.ref C) "__getattr__" = some none
  hd : hasDictIn K C = true
  sa : findIn K (.ref C) "__setattr__" = some (some (.builtin "object.__setattr__"))
  po : plainOver K C = true
  mi : makesIn K C = true
  at_ : ∀ a ∈ attrs, findIn K (.ref C) (Str.ofString a) = some none
theorem clsOk_parts {K : Frag} {attrs : List String} {C : Addr} (h : clsOk K attrs C = true) : ClsOk K attrs C := by
  unfold clsOk at h
  simp only [Bool.and_eq_true, beq_iff_eq, List.all_eq_true] at h
  obtain ⟨⟨⟨⟨⟨⟨a, b⟩, d⟩, e⟩, f⟩, g⟩, i⟩ := h
  exact ⟨a, b, d, e, f, g, i⟩
structure InstOf (G : Gl) (w : Wd) (h : Heap) (i : Nat) (p : Addr × Addr) (fs : List (String × V)) (C : Addr) (es : List DictEntry) (k : Nat) : Prop where
  I : InstAt h p.1 (instObj C p.2) C (some (dictOf es k))
  ok : ClsOk G.K G.com.attrs C
  fs : FsR G w fs es
  ne : p.1 ≠ p.2
theorem SR.ref (S : SR G w σ s.heap) {i : Nat} {o : O} {p : Addr × Addr} (hp : w.φ[i]? = some p) (hg : σ.get i = some o) : ORel G w s.heap i p o := by
  obtain ⟨q, hq, rr⟩ := S.obj _ _ hg
  rw [hp] at hq; cases hq; exact rr
theorem inst_of {i : Nat} {cn : String} {fs : List (String × V)} {p : Addr × Addr} (B : Base G w) (S : SR G w σ s.heap) (hp : w.φ[i]? = some p) (hg : σ.get i = some (.inst cn fs)) :
    ∃ C es k, InstOf G w s.heap i p fs C es k ∧ clsAt G.K cn = some C ∧ cn ∈ G.com.cls ∧ w.m p.2 = some (.obj i) ∧ w.m p.1 = some (.obj i) := by
  obtain ⟨m2, C, es, k, h1, m1, h2, ne, hcn, hC, hfs⟩ := S.ref hp hg
  obtain ⟨C', hC', hok⟩ := B.cls _ hcn
  rw [hC] at hC'; cases hC'
  exact ⟨C, es, k, ⟨⟨h1, rfl, rfl, h2⟩, clsOk_parts hok, hfs, ne⟩, hC, hcn, m2, m1⟩
theorem field_inv {i : Nat} {a : String} {o : O} {v : V} (h : O.field a o = some v) : ∃ c fs, o = .inst c fs ∧ lk fs a = some v := by
  cases o with
  | inst c fs => exact ⟨c, fs, rfl, h⟩
  | _ => exact no h
theorem attr_sound {o v : V} {a : String} (B : Base G w) (S : SR G w σ s.heap) (ho : VR G w o x) (ha : a ∈ G.com.attrs) (hv : attrV σ o a = some v) : wpAny G.M A (getAttr x (Str.ofString a) true) (Out G (VR G) w s v σ) Ex s := by
  obtain ⟨i, rfl, hv⟩ := withRef_inv hv
  obtain ⟨ob, hg, hv⟩ := onO_inv hv
  obtain ⟨c, fs, rfl, hv⟩ := field_inv (i := i) hv
  obtain ⟨p, hp, rfl⟩ := ho.refv
  obtain ⟨C, es, k, I, _⟩ := inst_of B S hp hg
  obtain ⟨y, hy, hvy⟩ := (fs_look (k := k) I.fs a).1 v hv
  refine get_value (B.kin S) I.I I.ok.ga ?_ hvy.handed ⟨w, S.postH, hvy⟩
  have g3 := I.ok.hd
  unfold hasDictIn at g3
  unfold findObj
  cases hcl : clsIn G.K C with
  | none => rw [hcl] at g3; exact noB g3
  | some cd =>
    rw [hcl] at g3
    simp only [Option.bind_some, I.ok.at_ a ha]
    unfold W.ownOf
    rw [if_pos (show cd.hasDict = true from g3)]
    simp only [hy, Option.bind_some]
theorem Pt.attr (X : Pt G n cx) {a : String} (h : cx.attrs.contains a = true) : a ∈ G.com.attrs := X.hn.attrs ▸ List.contains_iff_mem.mp h
theorem sim_attr {o : E} {a : String} {l : Expr} (hs : notSuper l = true) (hat : cx.attrs.contains a = true) (ho : Sim G n cx o l) : Sim G n cx (.attr o a) (.Attribute l (Str.ofString a) pos) :=
  .of (fun X r σ' hev => wpAny_Attr hs (ho.bind X .refl hev fun x xv w₁ σ₁ s₁ p hx hk => retV_inv hk fun z hz => wp_out p.ahead (attr_sound (X.to p).B p.S hx (X.attr hat) hz))) fun _ _ => rfl
theorem place_inv {k : Int} {m j : Nat} (h : place k m = some j) : k.natAbs < 2 ^ 60 ∧ ((0 ≤ k ∧ k < m ∧ j = k.toNat) ∨ (k < 0 ∧ 0 ≤ k + m ∧ j = (k + m).toNat)) := by
  obtain ⟨h1, h⟩ := if_inv h
  refine ⟨h1, ?_⟩
  by_cases h0 : 0 ≤ k
  · rw [if_pos h0] at h; obtain ⟨h2, h⟩ := if_inv h; cases h; exact .inl ⟨h0, h2, rfl⟩
  · rw [if_neg h0] at h; obtain ⟨h2, h⟩ := if_inv h; cases h; exact .inr ⟨Int.not_le.mp h0, h2, rfl⟩
theorem place_seq {k : Int} {m j : Nat} (h : place k m = some j) : seqIndex? k m = some j ∧ j < m ∧ -(2 ^ 63) ≤ k ∧ k < 2 ^ 63 := by
  obtain ⟨hb, h⟩ := place_inv h
  refine ⟨?_, by omega, by omega, by omega⟩
  unfold seqIndex?
  rcases h with ⟨h0, h1, rfl⟩ | ⟨h0, h1, rfl⟩
  · simp only [if_neg (Int.not_lt.mpr h0)]
    exact if_pos (by simp only [Bool.and_eq_true, decide_eq_true_eq]; omega)
  · simp only [if_pos h0]
    exact if_pos (by simp only [Bool.and_eq_true, decide_eq_true_eq]; omega)
theorem getItem_listAny {l : Addr} {items : Array Value} {k : Int} {t : Tok} {j : Nat} (hl : s.heap.IsList l items) (hp : place k items.size = some j) (hx : items[j]? = some x) (h : Q x s) : wpAny G.M A (getItem (.ref l) (.int k t)) Q Ex s := by
  obtain ⟨_, _, b1, b2⟩ := place_seq hp
  rcases (place_inv hp).2 with ⟨h0, h1, rfl⟩ | ⟨h0, h1, rfl⟩
  · exact wpAny_getItem_list hl h0 b2 hx h
  · exact wpAny_getItem_list_neg hl h0 (by omega) b1 hx h
theorem subs_plain {ie : Expr} {o i : Value} (h : notSliceE ie = true) : subscripted ie false o i = operate [o, i] (getItem o i) := by
  cases ie <;> first | rfl | exact noB h
theorem VRs.getArr {vs : List V} {xs : Array Value} {j : Nat} {v : V} (r : VRs G w vs xs.toList) (h : vs[j]? = some v) : ∃ x, xs[j]? = some x ∧ VR G w v x :=
  let ⟨x, e, hv⟩ := All2.get r h; ⟨x, Array.getElem?_toList ▸ e, hv⟩
theorem strOk_at {x : Str} {j cp : Nat} (h : sOk x = true) (e : x.cps[j]? = some cp) : sOk ⟨#[cp]⟩ = true := by
  refine sOk_iff.mpr ⟨?_, (by decide : 1 ≤ lim)⟩
  have h := (sOk_iff.mp h).1
  unfold PyData.strOk at *
  obtain ⟨hj, e⟩ := Array.getElem?_eq_some_iff.mp e
  have := Array.all_eq_true.mp h j hj
  rw [e] at this
  simpa using this
theorem at1_inv {i v : V} {vs : List V} {xs : Array Value} (hi : VR G w i y) (r : VRs G w vs xs.toList) (h : withInt i (at1 vs) = some v) : ∃ k t j z, y = .int k t ∧ place k xs.size = some j ∧ xs[j]? = some z ∧ VR G w v z := by
  obtain ⟨k, rfl, h⟩ := withInt_inv h
  obtain ⟨t, e⟩ := hi.intv
  obtain ⟨j, hp, hj⟩ := Option.bind_eq_some_iff.mp h
  obtain ⟨z, hz, hvz⟩ := VRs.getArr r hj
  exact ⟨k, t, j, z, e, r.size ▸ hp, hz, hvz⟩
theorem SR.outT {v : V} {z : Value} {tk : Nat} (S : SR G w σ s.heap) (hv : VR G w v z) : Out G (VR G) w s v σ z { s with toks := tk } := ⟨w, S.postH, hv⟩
theorem idxD_sound {ve ie : Expr} {κ : Type} [DecidableEq κ] {knd : PySem.KeyKind G.prog G.ω κ} {k : κ} {l : Bool} {i : Nat} {v : V} {es : List (κ × V)} {p : Addr × Addr} (hns : notSliceE ie = true) (S : SR G w σ s.heap) (hk : knd.is k y = true) (r : DRel G w s.heap i p knd l es) (hv : lk es k = some v) :
    wpAny G.M A (subscriptTail ve ie (.ref p.1) y) (Out G (VR G) w s v σ) Ex s :=
  let ⟨_, o, _, r1, _, r2, r3, _⟩ := r
  let ⟨_, hz, hvz⟩ := (lk_valueAt r3 k).1 v hv
  have hm := (Heap.dictOf_iff.mpr ⟨o, r1, r2⟩).mapOf
  tail_any hm.typeIs slot_dict_getitem.lookup (wpAny_getItem_of hk hm hz (S.outT hvz)) (subs_plain hns)
theorem idxV_sound {ve ie : Expr} {o i v : V} (hns : notSliceE ie = true) (S : SR G w σ s.heap) (ho : VR G w o x) (hi : VR G w i y) (hv : idxV σ o i = some v) : wpAny G.M A (subscriptTail ve ie x y) (Out G (VR G) w s v σ) Ex s := by
  have list : ∀ {l : Addr} {xs : Array Value} {vs : List V}, s.heap.IsList l xs → VRs G w vs xs.toList → withInt i (at1 vs) = some v → wpAny G.M A (subscriptTail ve ie (.ref l) y) (Out G (VR G) w s v σ) Ex s := fun hl e4 hv => by
    obtain ⟨k, t, j, z, rfl, hp, hz, hvz⟩ := at1_inv hi e4 hv
    exact tail_any hl.typeIs slot_list_getitem.lookup (getItem_listAny hl hp hz (S.outT (tk := s.toks) hvz)) (subs_plain hns)
  cases o with
  | lst vs => obtain ⟨a, xs, rfl, hl, va, _⟩ := ho.lstv S; exact list hl va hv
  | tup vs =>
    obtain ⟨a, o, xs, m, rfl, h1, h2, h3, va, _⟩ := ho.tupv S
    obtain ⟨k, t, j, z, rfl, hp, hz, hvz⟩ := at1_inv hi va hv
    obtain ⟨q1, q2, q3, q4⟩ := place_seq hp
    exact item_tupleT (l := xs.toList) (by exact ⟨o, h1, h2, m, h3⟩) q3 q4 (by rw [Array.length_toList]; exact q1) (by rw [Array.getElem?_toList]; exact hz) (S.outT (tk := s.toks) hvz) (subs_plain hns)
  | str t =>
    obtain ⟨u, rfl, k⟩ := ho.strv
    obtain ⟨i', rfl, hv⟩ := withInt_inv hv
    obtain ⟨t', rfl⟩ := hi.intv
    obtain ⟨j, hp, hv⟩ := Option.bind_eq_some_iff.mp hv
    obtain ⟨cp, hc, rfl⟩ := Option.map_eq_some_iff.mp hv
    obtain ⟨q1, q2, q3, q4⟩ := place_seq hp
    refine tail_any (typeIs_str s _ _) PySem.F.slot_str_getitem.lookup (PyProof.Rows.getItem_str (c := cp) ?_ ?_ (S.outT (.str _ _ (strOk_at k hc)))) (subs_plain hns)
    · rw [Bool.or_eq_false_iff]; exact ⟨decide_eq_false (Int.not_lt.mpr q3), decide_eq_false (Int.not_le.mpr q4)⟩
    · show (seqIndex? _ t.cps.size).bind _ = _
      rw [q1]; exact hc
  | ref r =>
    obtain ⟨p, hp, rfl⟩ := ho.refv
    obtain ⟨ob, hg, hv⟩ := Option.bind_eq_some_iff.mp hv
    have rr := S.ref hp hg
    cases ob with
    | list l vs => obtain ⟨_, xs, k, r1, _, r2, _⟩ := rr; exact list ⟨_, r1, rfl, _, rfl⟩ r2 hv
    | di l es =>
      obtain ⟨k, rfl, hv⟩ := withInt_inv hv
      obtain ⟨tk, rfl⟩ := hi.intv
      exact idxD_sound hns S (isInt_self _ _) rr hv
    | ds l es =>
      obtain ⟨k, rfl, hv⟩ := withStr_inv hv
      obtain ⟨tk, rfl, _⟩ := hi.strv
      exact idxD_sound hns S (strKind_is _ _ _ _) rr.1 hv
    | inst => exact no hv
  | _ => exact no hv
theorem sim_idx {o i : E} {l j : Expr} (hns : notSliceE j = true) (ho : Sim G n cx o l) (hi : Sim G n cx i j) : Sim G n cx (.idx o i) (.Subscript l j pos) :=
  .of (fun X r σ' hev => Subscript_ (ho.bind X .refl hev fun x xv w₁ σ₁ s₁ p hx hk => hi.bind (X.to p) p.ahead hk fun y yv w₂ σ₂ s₂ q hy hk =>
    retV_inv hk fun z hz => wp_out (p.ahead.step q) (idxV_sound hns q.S (hx.mono q.hw.sub) hy hz))) fun _ _ => rfl
end
end Lw
namespace Lw
open PySem PySem.W PySem.Calls PyProof.Rows
theorem cutL_eq {α : Type} (xs : List α) (a b : Nat) : cutL xs a b = (xs.drop a).take (b - a) := List.drop_take
theorem cutL_len {α : Type} (xs : List α) (a b : Nat) : (cutL xs a b).length ≤ xs.length := by
  unfold cutL; rw [List.length_drop, List.length_take]; exact Nat.le_trans (Nat.sub_le ..) (Nat.min_le_right ..)
theorem strIdx_plain (l u : Option Int) (m : Nat) : Builtin.Str.strSliceIndices l u 1 m = sliceRange ((l.elim 0 (clipAt m) : Nat) : Int) ((u.elim m (clipAt m) : Nat) : Int) 1 := by
  unfold Builtin.Str.strSliceIndices
  cases l <;> cases u <;> simp [clipAt_cast]
theorem strOk_cut {x : Str} (a b : Nat) (h : sOk x = true) : sOk ⟨(cutL x.cps.toList a b).toArray⟩ = true := by
  obtain ⟨h1, h2⟩ := sOk_iff.mp h
  refine sOk_iff.mpr ⟨?_, Nat.le_trans (cutL_len x.cps.toList a b) h2⟩
  unfold PyData.strOk at *
  rw [← Array.all_toList, List.all_eq_true] at *
  exact fun y hy => h1 y (List.mem_of_mem_take (List.mem_of_mem_drop hy))
theorem clip_le {m : Nat} (i : Int) : clipAt m i ≤ m := by unfold clipAt; omega
theorem clip_int (i : Int) (m : Nat) : (if 0 ≤ i then min i.toNat m else (i + m).toNat) = clipAt m i := by
  unfold clipAt
  by_cases h : 0 ≤ i
  · rw [if_pos h, if_neg (Int.not_lt.mpr h)]; omega
  · rw [if_neg h, if_pos (Int.not_le.mp h)]; omega
section
variable {G : Gl} {n : Nat} {cx : Cxt} {w w' w₀ : Wd} {s s' s₀ : Shared} {σ σ' : St} {A : Around} {env : Env} {Ex : Value → Shared → Prop} {Q : Value → Shared → Prop} {x y z : Value} {pos : Pos}
noncomputable def SimP (G : Gl) (n : Nat) (cx : Cxt) (ir : E) (l : Option Expr) : Prop := (l = none ∧ ir = .cNone) ∨ ∃ e, l = some e ∧ Sim G n cx ir e
theorem SimP.bind {α : Type} {a : E} {l : Option Expr} {k : V → St → Option (Res α × St)} {r : Res α} {R : Value → Shared → Prop} (ha : SimP G n cx a l) (X : Pt G n cx) (A0 : Ahead w₀ s₀ X.w X.s) (hev : bindM (X.ev a) k = some (r, σ'))
    (hk : ∀ x xv w₁ σ₁ s₁ (_ : Post G X.w X.s w₁ σ₁ s₁), VR G w₁ x xv → k x σ₁ = some (r, σ') → R xv s₁) : wpAny G.M X.A (evalPart l X.env) R (QX G w₀ s₀ X.envs r σ') X.s := by
  rcases ha with ⟨rfl, rfl⟩ | ⟨e, rfl, ha⟩
  · rw [evalPart_none]; exact wpAny_pure (hk _ _ _ _ _ X.S.post .none hev)
  · rw [evalPart_some]; exact ha.bind X A0 hev hk
theorem clamp_part {d m a : Nat} {lo : V} (hv : VR G w lo x) (hd : d ≤ m) (h : clamp d lo m = some a) : ∃ q : Option (Int × Tok), IsPart x (q.map (·.1)) ∧ x = partValue q ∧ (q.map (·.1)).elim d (clipAt m) = a ∧ a ≤ m := by
  cases lo with
  | none => cases hv; cases h; exact ⟨none, .none, rfl, rfl, hd⟩
  | int i =>
    obtain ⟨t, rfl⟩ := hv.intv
    have h := (clip_int i m).symm.trans (Option.some.inj h)
    exact ⟨some (i, t), .int i t, rfl, h, h ▸ clip_le i⟩
  | _ => exact no h
theorem sliceMade_post {x : Str} {t : Tok} {l u : Option (Int × Tok)} {a b : Nat} (hx : sOk x = true) (ha : (l.map (·.1)).elim 0 (clipAt x.cps.size) = a) (hb : (u.map (·.1)).elim x.cps.size (clipAt x.cps.size) = b) (hbm : b ≤ x.cps.size)
    (h : ∀ t' tk, Q (.str ⟨(cutL x.cps.toList a b).toArray⟩ t') { s with toks := tk }) : (sliceMade x t l u none).post Q s := by
  have hr : slicePicked x l u none = sliceRange (a : Int) (b : Int) 1 := by
    rw [← ha, ← hb]; exact strIdx_plain _ _ _
  have hpick : ((slicePicked x l u none).filterMap (x.cps[·]?)) = cutL x.cps.toList a b := by rw [hr, sliceRange_one, pick_run, cutL_eq]
  have hlen : (slicePicked x l u none).length = b - a := by rw [hr, sliceRange_one, List.length_map, List.length_range]
  unfold sliceMade
  split
  · rename_i hc
    simp only [Option.map_none, Option.getD_none, beq_self_eq_true, Bool.true_and, beq_iff_eq] at hc
    have hc : b - a = x.cps.size := hlen.symm.trans hc
    have h := h t s.toks
    have e : cutL x.cps.toList a b = x.cps.toList := by
      rw [cutL_eq, hc]
      by_cases h0 : a = 0
      · rw [h0]; exact List.take_of_length_le (by rw [List.length_drop, Array.length_toList]; exact Nat.sub_le ..)
      · have : x.cps.toList = [] := List.eq_nil_of_length_eq_zero (by rw [Array.length_toList]; omega)
        rw [this]; simp
    rw [e] at h
    exact h
  · rw [hpick]
    exact ⟨lim_size0 (sOk_iff.mp (strOk_cut a b hx)).2, h _ _⟩
abbrev sliceObj (y z u : Value) : Obj := { cls := .type "slice", data := .fields #[y, z, u] }
theorem seqOf_inv {v : V} {vs : List V} (h : seqOf σ v = some vs) : v = .lst vs ∨ ∃ i l, v = .ref i ∧ σ.get i = some (.list l vs) := by
  cases v with
  | lst us => cases h; exact .inl rfl
  | ref i => obtain ⟨l, e⟩ := listAt_inv h; exact .inr ⟨i, l, rfl, e⟩
  | _ => exact no h
theorem seqOf_sound {v : V} {vs : List V} (S : SR G w σ s.heap) (hv : VR G w v x) (h : seqOf σ v = some vs) : ∃ a xs, x = .ref a ∧ s.heap.IsList a xs ∧ VRs G w vs xs.toList ∧ vs.length ≤ lim := by
  rcases seqOf_inv h with rfl | ⟨i, l, rfl, e⟩
  · exact hv.lstv S
  · obtain ⟨p, hp, rfl⟩ := hv.refv
    obtain ⟨_, xs, k, r1, _, r2, r3⟩ := S.ref hp e
    exact ⟨_, _, rfl, ⟨_, r1, rfl, _, rfl⟩, r2, r3⟩
theorem IsList_keep {h h' : Heap} {a : Addr} {xs : Array Value} (k : ∀ b o, h.get? b = some o → h'.get? b = some o) (hl : h.IsList a xs) : h'.IsList a xs := let ⟨o, e, r⟩ := hl; ⟨o, k _ _ e, r⟩
theorem Ahead.push (o : Obj) : Ahead w s w { s with heap := s.heap.push o } := ⟨.of _ _ s.toks, .refl _⟩
theorem sliceV_sound {mt : Bool} {ve : Expr} {le he : Option Expr} {sp : Pos} {o lo hi : V} {r : Res V} (S : SR G w σ s.heap) (ho : VR G w o x) (hl : VR G w lo y) (hh : VR G w hi z) (hv : sliceV mt o lo hi σ = some (r, σ')) :
    wpAny G.M A (subscriptTail ve (.Slice le he none sp) x (.ref s.heap.objs.size)) (QV G (VR G) w s r σ') Ex { s with heap := s.heap.push (sliceObj y z .none) } := by
  have S' : SR G w σ (s.heap.push (sliceObj y z .none)) := S.keeps (push_keeps _ _)
  have hsl : (s.heap.push (sliceObj y z .none)).get? s.heap.objs.size = some (sliceObj y z .none) := Heap.get?_push_size _ rfl
  have lists : (onO (seqOf σ o) fun vs => cutV lo hi vs.length fun a b => mkL mt (cutL vs a b) σ) = some (r, σ') → wpAny G.M A (subscriptTail ve (.Slice le he none sp) x (.ref s.heap.objs.size)) (QV G (VR G) w s r σ') Ex { s with heap := s.heap.push (sliceObj y z .none) } := fun hv => by
    obtain ⟨vs, h1, hv⟩ := onO_inv hv
    obtain ⟨a, ha, hv⟩ := onO_inv hv
    obtain ⟨b, hb, hv⟩ := onO_inv hv
    obtain ⟨l, xs, rfl, hL, hvs, hlim⟩ := seqOf_sound S ho h1
    have hL := IsList_keep (push_keeps _ (sliceObj y z .none)) hL
    rw [hvs.size] at ha hb
    obtain ⟨ql, il, _, el, _⟩ := clamp_part hl (Nat.zero_le _) ha
    obtain ⟨qh, ih, _, eh, _⟩ := clamp_part hh (Nat.le_refl _) hb
    refine tail_any hL.typeIs slot_list_getitem.lookup (wpAny_getItem_list_slice hL ⟨_, hsl, rfl, rfl⟩ il ih .none (fun q => nomatch q) ?_ (by rw [← hvs.size]; exact lim_size0 hlim)) rfl
    rw [slicePick_plain, el, eh, ← cutL_eq]
    exact (Ahead.push _).qv (mkL_new (s := { s with heap := s.heap.push (sliceObj y z .none) }) (out := (cutL xs.toList a b).toArray) (tk := s.toks) S' (All2.drop (All2.take hvs b) a) (Nat.le_trans (cutL_len ..) hlim) hv)
  cases o with
  | str t =>
    obtain ⟨u, rfl, k⟩ := ho.strv
    obtain ⟨a, ha, hv⟩ := onO_inv hv
    obtain ⟨b, hb, hv⟩ := onO_inv hv
    obtain ⟨ql, _, e1, el, _⟩ := clamp_part hl (Nat.zero_le _) ha
    obtain ⟨qh, _, e2, eh, hbm⟩ := clamp_part hh (Nat.le_refl _) hb
    cases hv
    exact tail_any (typeIs_str _ _ _) PySem.F.slot_str_getitem.lookup (wpAny_getItem_str_slice (l := ql) (u := qh) (st := none) ⟨_, hsl, rfl, by rw [e1, e2]; rfl⟩ rfl (sliceMade_post k el eh hbm fun t' tk => ⟨w, ⟨.of _ _ _, .refl _, S'⟩, .str _ _ (strOk_cut a b k)⟩)) rfl
  | _ => exact lists hv
theorem sim_slice {mt : Bool} {o lo hi : E} {l : Expr} {le he : Option Expr} {sp : Pos} (ho : Sim G n cx o l) (hlo : SimP G n cx lo le) (hhi : SimP G n cx hi he) : Sim G n cx (.slice mt o lo hi) (.Subscript l (.Slice le he none sp) pos) :=
  .of (fun X r σ' hev => Subscript_ (ho.bind X .refl hev fun x xv w₁ σ₁ s₁ p hx hk => wpAny_Slice (hlo.bind (X.to p) p.ahead hk fun y yv w₂ σ₂ s₂ q hy hk => hhi.bind ((X.to p).to q) (p.ahead.step q) hk fun z zv w₃ σ₃ s₃ u hz hk => by
    rw [evalPart_none]
    exact wpAny_pure (wpAny_mono (sliceV_sound u.S ((hx.mono q.hw.sub).mono u.hw.sub) (hy.mono u.hw.sub) hz hk) (fun _ _ q' => ((p.ahead.step q).step u).qv q') fun _ _ q' => q')))) fun _ _ => rfl
theorem emptyDict_of {κ : Type} [DecidableEq κ] (knd : PySem.KeyKind G.prog G.ω κ) : ({ cls := .type "dict", data := .dict #[] } : Obj).IsDictOf knd [] :=
  ⟨#[], 0, ⟨rfl, rfl, rfl⟩, rfl, fun e he => by simp at he, by simpa using Pairs.nil, by simp⟩
theorem size_sys (S : SR G w σ s.heap) (B : Base G w) : s.heap.objs.size ≠ sysModules := B.sys S fun _ _ e => Heap.lt_size e
theorem sim_dict0 {b : Bool} : Sim G n cx (.dict0 b) (.Dict [] [] pos) :=
  .of (fun X r σ' hev => ok_inv hev (wpAny_Dict_empty (by
    have h0 := get_size X.s.heap
    have hD : (X.s.heap.push { cls := .type "dict", data := .dict #[] }).get? X.s.heap.objs.size = some _ := Heap.get?_push_size _ rfl
    refine ⟨_, ⟨.of _ _ X.s.toks, Wd.new_lt (p := (X.s.heap.objs.size, X.s.heap.objs.size)) X.S h0 h0, X.S.alloc h0 h0 (push_keeps _ _) ⟨_, hD⟩ ⟨_, hD⟩ ?_⟩, X.S.refNew⟩
    cases b
    · exact ⟨rfl, _, [], hD, Wd.new_1 (p := (X.s.heap.objs.size, X.s.heap.objs.size)), emptyDict_of _, .nil, Nat.zero_le _, size_sys X.S X.B⟩
    · exact ⟨⟨rfl, _, [], hD, Wd.new_1 (p := (X.s.heap.objs.size, X.s.heap.objs.size)), emptyDict_of _, .nil, Nat.zero_le _, size_sys X.S X.B⟩, fun _ q => nomatch q⟩))) fun _ _ => rfl
abbrev KeysR : List Str → List (Option Expr) → Prop := All2 fun k e => ∃ j p, e = some (.Constant (.str k) j p)
abbrev PairR (G : Gl) (w : Wd) : List (Str × V) → List (Value × Value) → Prop := All2 fun kv p => (∃ t, p.1 = .str kv.1 t) ∧ VR G w kv.2 p.2
noncomputable def pairTrees (pos : Pos) (env : Env) : List (Option Expr) → List Expr → List (Sem Value × Sem Value)
  | some k :: ks, v :: vs => (eval k env, do let x ← eval v env; standAt pos; pure x) :: pairTrees pos env ks vs
  | _, _ => []
theorem pairTrees_shape {ks : List Str} {kes : List (Option Expr)} (h : KeysR ks kes) : ∀ {ves : List Expr}, ks.length = ves.length →
    (evalEachOpt kes env).zip ((evalEach ves env).map fun v => do let x ← v; standAt pos; pure x) = ((pairTrees pos env kes ves).map fun p => (some p.1, p.2)) ∧ (pairTrees pos env kes ves).length = ks.length := by
  induction h with
  | nil => exact fun _ => ⟨rfl, rfl⟩
  | cons a _ ih =>
    obtain ⟨j, p, rfl⟩ := a
    intro ves hl
    cases ves with
    | nil => cases hl
    | cons v vs =>
      obtain ⟨h1, h2⟩ := ih (Nat.succ.inj hl)
      exact ⟨congrArg (List.cons _) h1, congrArg (· + 1) h2⟩
theorem evalPairs_bind {ks : List Str} {kes : List (Option Expr)} (hks : KeysR ks kes) : ∀ {es : List E} {ves : List Expr}, Sims G n cx es ves → ks.length = ves.length → ∀ {α : Type} {k : List V → St → Option (Res α × St)} {r : Res α} {R : List (Value × Value) → Shared → Prop} (X : Pt G n cx), Ahead w₀ s₀ X.w X.s → bindM (X.evs es) k = some (r, σ') →
    (∀ vs ps w₁ σ₁ s₁ (_ : Post G X.w X.s w₁ σ₁ s₁), PairR G w₁ (ks.zip vs) ps → vs.length = ks.length → k vs σ₁ = some (r, σ') → R ps s₁) → wpAny G.M X.A (evalPairs (pairTrees pos X.env kes ves)) R (QX G w₀ s₀ X.envs r σ') X.s := by
  induction hks with
  | nil =>
    intro es ves hes hl α k r R X A0 hev hk
    cases hes with
    | nil => exact evalPairs_nil (hk _ _ _ _ _ X.S.post .nil rfl hev)
    | cons => cases hl
  | cons a hr ih =>
    obtain ⟨j, p, rfl⟩ := a
    intro es ves hes hl α k r R X A0 hev hk
    cases hes with
    | nil => cases hl
    | cons hb hbs =>
      have p0 : Post G X.w X.s X.w X.σ { X.s with toks := X.s.toks + 1 } := X.S.postH
      refine evalPairs_cons (wpAny_Constant_str (wpAny_bind (hb.2.bind (X.to p0) (A0.step p0) (evs_assoc X ▸ hev) fun x xv w₁ σ₁ s₁ p hx h1 => wpAny_bind (wpAny_standAt (wpAny_pure ?_)))))
      exact ih hbs (Nat.succ.inj hl) ((X.to p0).to p) ((A0.step p0).step p) h1 fun vs ps w₂ σ₂ s₂ q hv hlv h2 => hk (x :: vs) _ _ _ _ (p0.ahead.post (p.ahead.post q)) (.cons ⟨⟨_, rfl⟩, hx.mono q.hw.sub⟩ hv) (congrArg (· + 1) hlv) h2
theorem PairR.kvs {kvs : List (Str × V)} {ps : List (Value × Value)} (r : PairR G w kvs ps) : ∃ es, Carries (PySem.strKind G.prog G.ω) ps es ∧ ER G w kvs es ∧ es.map (·.1) = kvs.map (·.1) := by
  induction r with
  | nil => exact ⟨[], trivial, .nil, rfl⟩
  | @cons kv p _ _ a _ ih =>
    obtain ⟨es, h1, h2, h3⟩ := ih
    obtain ⟨⟨t, e⟩, hv⟩ := a
    exact ⟨(kv.1, p.2) :: es, ⟨e ▸ strKind_is _ _ _ _, rfl, h1⟩, .cons ⟨rfl, hv⟩ h2, congrArg (List.cons _) h3⟩
theorem sim_dict {ks : List Str} {kes : List (Option Expr)} {es : List E} {ves : List Expr} (hk : KeysR ks kes) (hs : Sims G n cx es ves) (hlen : ks.length = ves.length) (h0 : ks ≠ []) (h10 : ks.length < 10) (hnd : ks.Nodup) (hok : ∀ k ∈ ks, sOk k = true) :
    Sim G n cx (.dict ks es) (.Dict kes ves pos) :=
  .of (fun X r σ' hev => by
    have sh := pairTrees_shape (env := X.env) (pos := pos) hk hlen
    have hn0 := get_size X.s.heap
    generalize hD : X.s.heap.objs.size = D at hn0
    have hf := X.S.fresh hn0
    have p0 : Post G X.w X.s (X.w.set D (.own { cls := .type "dict", data := .dict #[] })) X.σ { X.s with heap := X.s.heap.push { cls := .type "dict", data := .dict #[] } } :=
      ⟨.of _ _ X.s.toks, Wd.le_set hf, X.S.put hn0 (push_keeps _ _) (hD ▸ Heap.get?_push_size _ rfl)⟩
    refine wpAny_Dict_pairs (knd := PySem.strKind G.prog G.ω) sh.1 (fun q => by rw [q] at sh; exact h0 (List.eq_nil_of_length_eq_zero sh.2.symm)) (by rw [sh.2]; omega) ?_
    refine evalPairs_bind hk hs hlen (X.to p0) p0.ahead hev fun vs ps w₁ σ₁ s₁ p hv hlv hk1 => ?_
    cases hk1
    have hm := p.hw.m _ _ (Wd.set_at (w := X.w) (a := D) (x := .own { cls := .type "dict", data := .dict #[] }))
    obtain ⟨kvs, c1, c2, c3⟩ := hv.kvs
    rw [List.map_fst_zip (Nat.le_of_eq hlv.symm)] at c3
    refine ⟨kvs, c1, Heap.dictOf_iff.mpr ⟨_, hD ▸ p.S.m _ _ hm, emptyDict_of _⟩, fun h' hd hS => ?_⟩
    rw [merged_nil_of_nodup _ (by rw [c3]; exact hnd), hD] at hd
    rw [hD] at hS ⊢
    obtain ⟨o', ho', hdo⟩ := Heap.dictOf_iff.mp hd
    have sb : w₁.Sub (w₁.new (D, D)) := ⟨fun b o e => (Wd.new_ne (fun q => by rw [q, hm] at e; cases e) (fun q => by rw [q, hm] at e; cases e)).trans e, List.prefix_append _ _⟩
    exact ⟨_, ⟨(p0.hs.trans p.hs).trans (.of _ _ _), Wd.le_new (p := (D, D)) (p0.hw.trans p.hw) hf hf, p.S.adopt sb (Wd.unheld_own hm) (Wd.unheld_own hm) (fun b y hb _ e => (hS.2 b hb).trans e) ⟨_, ho'⟩ ⟨_, ho'⟩
      ⟨⟨rfl, o', kvs, ho', Wd.new_1 (p := (D, D)), hdo, c2.mono sb, by rw [List.length_zip, hlv, Nat.min_self]; exact Nat.le_trans (Nat.le_of_lt h10) (by decide), hD ▸ size_sys X.S X.B⟩, fun kv q => hok _ (List.of_mem_zip q).1⟩⟩, p.S.refNew⟩) fun _ _ => rfl
end
end Lw
namespace Lw
open PySem PySem.W PySem.Calls PyProof.Rows
inductive SimKs (G : Gl) (n : Nat) (cx : Cxt) : List String → List E → List Keyword → Prop
  | nil : SimKs G n cx [] [] []
  | cons {x : String} {a : E} {e : Expr} {p : Pos} {xs : List String} {r : List E} {ks : List Keyword} : Sim G n cx a e → SimKs G n cx xs r ks → SimKs G n cx (x :: xs) (a :: r) (⟨some (Str.ofString x), e, p⟩ :: ks)
section
variable {G : Gl} {n : Nat} {cx : Cxt} {w w' w₀ : Wd} {s s' s₀ : Shared} {σ σ' : St} {A : Around} {env : Env} {Ex : Value → Shared → Prop} {Q : Value → Shared → Prop} {x y z : Value} {pos : Pos}
theorem Sims.trees {es : List E} {xs : List Expr} (h : Sims G n cx es xs) (pos : Pos) : backTo pos (starEach xs env) = xs.map fun e => (false, eval e env) := by
  induction h with
  | nil => rfl
  | cons a _ ih =>
    rw [star_plain a.1]
    exact congrArg (List.cons _) ih
theorem SimKs.trees {xs : List String} {es : List E} {ks : List Keyword} (h : SimKs G n cx xs es ks) (pos : Pos) :
    (backToKw pos (keywordEach ks env)).all (·.1.isSome) = true ∧ (backToKw pos (keywordEach ks env)).any (·.1.isNone) = false ∧ (backToKw pos (keywordEach ks env)).filterMap (·.1) = xs.map Str.ofString := by
  induction h with
  | nil => exact ⟨rfl, rfl, rfl⟩
  | cons _ _ ih => exact ⟨ih.1, ih.2.1, congrArg (List.cons _) ih.2.2⟩
theorem SimKs.bind {xs : List String} {es : List E} {ks : List Keyword} (h : SimKs G n cx xs es ks) : ∀ {α : Type} {k : List V → St → Option (Res α × St)} {r : Res α} {R : List Value → Shared → Prop} (X : Pt G n cx), Ahead w₀ s₀ X.w X.s → bindM (X.evs es) k = some (r, σ') →
    (∀ x xv w₁ σ₁ s₁ (_ : Post G X.w X.s w₁ σ₁ s₁), VRs G w₁ x xv → k x σ₁ = some (r, σ') → R xv s₁) → wpAny G.M X.A (evalAll ((backToKw pos (keywordEach ks X.env)).map (·.2))) R (QX G w₀ s₀ X.envs r σ') X.s := by
  induction h with
  | nil => exact fun X A0 hev hk => wpAny_evalAll_nil (hk _ _ _ _ _ X.S.post .nil hev)
  | cons ha hr ih => exact fun X A0 hev hk => wpAny_evalAll_cons (wpAny_bind (ha.bind X A0 (evs_assoc X ▸ hev) fun x xv w₁ σ₁ s₁ p hx h1 => wpAny_bind (wpAny_standAt (wpAny_pure (ih (X.to p) (A0.step p) h1 fun y yv w₂ σ₂ s₂ q hy h2 => hk _ _ _ _ _ (p.ahead.post q) (.cons (hx.mono q.hw.sub) hy) h2)))))
noncomputable def KeepsK (G : Gl) (f : Value) : Prop := ∀ h, G.K.In h → ∃ k, (k = Keeper.frame ∨ k = Keeper.machine ∨ k = Keeper.boundFrame) ∧ Looks G.M h (keeperOf f) k
theorem keeps_builtin {id : String} : KeepsK G (.builtin id) := fun _ _ => ⟨.machine, .inr (.inl rfl), Looks.of_pure rfl⟩
theorem keeps_type {T : String} : KeepsK G (.type T) := fun _ _ => ⟨.machine, .inr (.inl rfl), Looks.of_pure rfl⟩
theorem keeps_in {f : Value} (h : keepIn G.K f = true) : KeepsK G f := fun _ X => keeps_K h _ X
theorem callWith_sound {α : Type} {f : Value} {first : List Value} {es : List E} {xs : List Expr} {kn : List String} {kes : List E} {ks : List Keyword} {k : List V → List V → St → Option (Res α × St)} {r : Res α} {R : Value → Shared → Prop}
    (hkeep : KeepsK G f) (ha : Sims G n cx es xs) (hks : SimKs G n cx kn kes ks) (X : Pt G n cx) (A0 : Ahead w₀ s₀ X.w X.s)
    (hev : bindM (X.evs es) (fun vs σ => bindM (Lw.evs G.P (run G.P n) X.hd kes X.ρ σ) (fun us σ => k vs us σ)) = some (r, σ'))
    (hk : ∀ vs us xv yv w₁ σ₁ s₁ (_ : Post G X.w X.s w₁ σ₁ s₁), VRs G w₁ vs xv → VRs G w₁ us yv → k vs us σ₁ = some (r, σ') → wpAny G.M X.A (call f (first ++ xv) ((kn.map Str.ofString).zip yv)) R (QX G w₀ s₀ X.envs r σ') s₁) :
    wpAny G.M X.A (callWith pos f first (backTo pos (starEach xs X.env)) (backToKw pos (keywordEach ks X.env))) R (QX G w₀ s₀ X.envs r σ') X.s := by
  obtain ⟨t1, t2, t3⟩ := hks.trees (env := X.env) pos
  have hplain : ((backTo pos (starEach xs X.env)).any (·.1) || (backToKw pos (keywordEach ks X.env)).any (·.1.isNone)) = false := by
    rw [t2, ha.trees pos, List.any_map, Bool.or_false]; exact List.any_eq_false.mpr fun _ _ => Bool.false_ne_true
  refine callWith_of (P := G.K.In) hplain hkeep ?_
  cases ha with
  | nil =>
    refine evalArgs_kw_nil t1 (hks.bind X A0 hev fun us yv w₂ σ₂ s₂ p hu h2 => ?_)
    rw [t3]
    exact ⟨(X.to p).B.kin p.S, hk _ us [] yv w₂ σ₂ s₂ p .nil hu h2⟩
  | @cons a e as bs hb hbs =>
    have key := Sims.bind (pos := pos) (R := fun vs s₁ => wpAny G.M X.A (evalAll ((backToKw pos (keywordEach ks X.env)).map (·.2))) (fun us s₂ => G.K.In s₂.heap ∧ wpAny G.M X.A (call f (first ++ vs) ((kn.map Str.ofString).zip us)) R (QX G w₀ s₀ X.envs r σ') s₂) (QX G w₀ s₀ X.envs r σ') s₁) (.cons hb hbs) X A0 hev fun vs xv w₁ σ₁ s₁ p hv h1 => hks.bind (pos := pos) (R := fun us s₂ => G.K.In s₂.heap ∧ wpAny G.M X.A (call f (first ++ xv) ((kn.map Str.ofString).zip us)) R (QX G w₀ s₀ X.envs r σ') s₂) (X.to p) (A0.step p) h1 fun us yv w₂ σ₂ s₂ q hu h2 =>
      ⟨((X.to p).to q).B.kin q.S, hk vs us xv yv w₂ σ₂ s₂ (p.ahead.post q) (hv.mono q.hw.sub) hu h2⟩
    rw [← t3] at key
    rw [show backTo pos (starEach (e :: bs) X.env) = (false, eval e X.env) :: backTo pos (starEach bs X.env) by rw [star_plain hb.1]; rfl] at key ⊢
    exact evalArgs_kw t1 key
theorem callName_sound {α : Type} {x : Str} {p : Pos} {f : Value} {es : List E} {xs : List Expr} {kn : List String} {kes : List E} {ks : List Keyword} {k : List V → List V → St → Option (Res α × St)} {r : Res α} {R : Value → Shared → Prop} (X : Pt G n cx)
    (hname : ∀ {Q : Value → Shared → Prop} {E : Value → Shared → Prop}, Q f X.s → wpAny G.M X.A (eval (.Name x p) X.env) Q E X.s)
    (hkeep : KeepsK G f) (ha : Sims G n cx es xs) (hks : SimKs G n cx kn kes ks)
    (hev : bindM (X.evs es) (fun vs σ => bindM (Lw.evs G.P (run G.P n) X.hd kes X.ρ σ) (fun us σ => k vs us σ)) = some (r, σ'))
    (hk : ∀ vs us xv yv w₁ σ₁ s₁ (_ : Post G X.w X.s w₁ σ₁ s₁), VRs G w₁ vs xv → VRs G w₁ us yv → k vs us σ₁ = some (r, σ') → wpAny G.M X.A (call f xv ((kn.map Str.ofString).zip yv)) R (QX G X.w X.s X.envs r σ') s₁) :
    wpAny G.M X.A (eval (.Call (.Name x p) xs ks pos) X.env) R (QX G X.w X.s X.envs r σ') X.s := wpAny_Call_Name_kw (hname (callWith_sound hkeep ha hks X .refl hev hk))
theorem wpAny_Call_Attr {o : Expr} {name : Str} {apos : Pos} {xs : List Expr} {es : List E} {kn : List String} {kes : List E} {ks : List Keyword} (hsup : notSuper o = true) (hpos : (apos.endLine == pos.line) = true)
    (ha : Sims G n cx es xs) (hks : SimKs G n cx kn kes ks) (hl : xs.length < 10) (hl2 : ks.length < 5)
    (h : wpAny G.M A (eval o env) (fun ov s₁ => ∀ pl, wpAny G.M A (getMethod ov name pl) (fun fx s₂ => wpAny G.M A (callWith pos fx.1 fx.2 (backTo pos (starEach xs env)) (backToKw pos (keywordEach ks env))) Q Ex s₂) Ex s₁) Ex s) :
    wpAny G.M A (eval (.Call (.Attribute o name apos) xs ks pos) env) Q Ex s := by
  rw [arm_eval_Call]
  obtain ⟨t1, t2, t3⟩ := hks.trees (env := env) pos
  have hf : methodCallForm (xs.length + ks.length) (backTo pos (starEach xs env)) (backToKw pos (keywordEach ks env)) = true := by
    unfold methodCallForm
    rw [t1, ha.trees pos]
    simp only [List.all_map, Function.comp_def, Bool.not_false, Bool.and_true, List.all_eq_true, implies_true, Bool.and_eq_true, decide_eq_true_eq, true_and]
    split <;> omega
  refine wpAny_bind (wpAny_attributeBase hsup (wpAny_mono h (fun ov s₁ q => wpAny_bind (wpAny_standAt ?_)) fun _ _ q => q))
  unfold methodCall
  rw [hf]
  unfold calleeOf methodCallPos
  simp only [hpos, Bool.not_true, Bool.false_or, if_true]
  exact wpAny_bind (wpAny_holding (wpAny_mono (q _) (fun fx s₂ q => wpAny_bind (wpAny_pure q)) fun _ _ q => q))
end
end Lw
namespace Lw
open PySem PySem.W PySem.Calls PyProof.Rows
noncomputable def bfVal : Bf → Value
  | .len => .builtin "len" | .sorted _ _ => .builtin "sorted" | .range => .type "range" | .min => .builtin "min" | .max => .builtin "max" | .abs => .builtin "abs"
  | .int => .type "int" | .list => .type "list" | .tuple => .type "tuple"
theorem lim63 {k : Nat} (h : k ≤ lim) : (k : Int) < 2 ^ 63 := Int.lt_of_le_of_lt (Int.ofNat_le.mpr h) (by decide)
theorem arg0_inv {α : Type} {args : List V} {k : Option α} {z : α} (h : arg0 args k = some z) : args = [] ∧ k = some z := by
  cases args with
  | nil => exact ⟨rfl, h⟩
  | cons => exact no h
theorem arg1_inv {α : Type} {args : List V} {k : V → Option α} {z : α} (h : arg1 args k = some z) : ∃ a, args = [a] ∧ k a = some z := by
  rcases args with _ | ⟨a, _ | _⟩
  · exact no h
  · exact ⟨a, rfl, h⟩
  · exact no h
theorem arg2_inv {α : Type} {args : List V} {k : V → V → Option α} {z : α} (h : arg2 args k = some z) : ∃ a b, args = [a, b] ∧ k a b = some z := by
  rcases args with _ | ⟨a, _ | ⟨b, _ | _⟩⟩
  · exact no h
  · exact no h
  · exact ⟨a, b, rfl, h⟩
  · exact no h
theorem retM_inv {α : Type} {o : Option α} {f : α → V} {σ σ' : St} {r : Res V} (h : retV (o.map f) σ = some (r, σ')) : ∃ a, o = some a ∧ r = .ok (f a) ∧ σ' = σ := by
  cases o with
  | none => exact no h
  | some a => cases h; exact ⟨a, rfl, rfl, rfl⟩
section
variable {G : Gl} {n : Nat} {cx : Cxt} {w w' w₀ : Wd} {s s' s₀ : Shared} {σ σ' : St} {A : Around} {env : Env} {Ex : Value → Shared → Prop} {Q : Value → Shared → Prop} {x y z : Value} {pos : Pos} {xs : List Value} {r : Res V}
theorem VRs.none (h : VRs G w [] xs) : xs = [] := by cases h; rfl
theorem VRs.one {v : V} (h : VRs G w [v] xs) : ∃ x, xs = [x] ∧ VR G w v x := by
  cases h with | cons a r => cases r; exact ⟨_, rfl, a⟩
theorem VRs.two {u v : V} (h : VRs G w [u, v] xs) : ∃ x y, xs = [x, y] ∧ VR G w u x ∧ VR G w v y := by
  cases h with | cons a r => cases r with | cons b r => cases r; exact ⟨_, _, rfl, a, b⟩
theorem SR.freezeR {a b k : Int} {t u v : Tok} {tk : Nat} (S : SR G w σ s.heap) : Out G (VR G) w s (.rng a b k) σ (.ref s.heap.objs.size) { s with heap := s.heap.push { cls := .type "range", data := .fields #[.int a t, .int b u, .int k v] }, toks := tk } :=
  S.freeze (.rng Wd.set_at ⟨t, u, v, rfl⟩) rfl
theorem SR.outN {m k : Nat} {t : Tok} {tk : Nat} (S : SR G w σ s.heap) (e : m = k) : Out G (VR G) w s (.int m) σ (.int k t) { s with toks := tk } := e ▸ S.outI
theorem lenD_sound {κ : Type} [DecidableEq κ] {knd : PySem.KeyKind G.prog G.ω κ} {l : Bool} {i : Nat} {es : List (κ × V)} {p : Addr × Addr} (S : SR G w σ s.heap) (r : DRel G w s.heap i p knd l es) : wpAny G.M A (call (.builtin "len") [.ref p.1]) (Out G (VR G) w s (.int es.length) σ) Ex s :=
  let ⟨_, o, _, r1, _, r2, r3, r5, r4⟩ := r
  call_len_dict (ne_beq r4) (Heap.dictOf_iff.mpr ⟨o, r1, r2⟩) (All2.length r3 ▸ lim63 r5) (S.outN (All2.length r3))
theorem len_sound {v : V} {m : Nat} (S : SR G w σ s.heap) (hv : VR G w v x) (h : lenV σ v = some m) : wpAny G.M A (call (.builtin "len") [x]) (Out G (VR G) w s (.int m) σ) Ex s := by
  cases v with
  | str y =>
    cases h
    obtain ⟨t, rfl, k⟩ := hv.strv
    exact PySem.P.len_str (Int.not_le.mpr (lim63 (sOk_iff.mp k).2)) S.outI
  | tup vs =>
    cases h
    obtain ⟨a, o, xs, k, rfl, h1, h2, h3, va, hl⟩ := hv.tupv S
    exact len_tuple ⟨o, h1, h2, k, h3⟩ (va.size ▸ lim63 hl) (S.outN va.size)
  | lst vs =>
    cases h
    obtain ⟨a, xs, rfl, hL, va, hl⟩ := hv.lstv S
    exact call_len_list hL (va.size ▸ lim63 hl) (S.outN va.size)
  | ref i =>
    obtain ⟨p, hp, rfl⟩ := hv.refv
    obtain ⟨o, hg, h⟩ := Option.bind_eq_some_iff.mp h
    have rr := S.ref hp hg
    cases o with
    | list l vs =>
      cases h
      obtain ⟨_, xs, k, r1, _, r2, r3⟩ := rr
      exact call_len_list ⟨_, r1, rfl, _, rfl⟩ (r2.size ▸ lim63 r3) (S.outN r2.size)
    | di => cases h; exact lenD_sound S rr
    | ds => cases h; exact lenD_sound S rr.1
    | inst => exact no h
  | _ => exact no h
theorem range_sound {args : List V} (S : SR G w σ s.heap) (hv : VRs G w args xs) (h : rangeV args σ = some (r, σ')) : wpAny G.M A (call (.type "range") xs []) (QV G (VR G) w s r σ') Ex s := by
  rcases args with _ | ⟨a, _ | ⟨b, _ | ⟨d, _ | _⟩⟩⟩
  · exact no h
  · obtain ⟨b, rfl, h⟩ := withInt_inv h
    obtain ⟨x, rfl, hx⟩ := hv.one
    obtain ⟨t, rfl⟩ := hx.intv
    cases h
    exact call_range_1 S.freezeR
  · obtain ⟨a, rfl, h⟩ := withInt_inv h
    obtain ⟨b, rfl, h⟩ := withInt_inv h
    obtain ⟨x, y, rfl, hx, hy⟩ := hv.two
    obtain ⟨t, rfl⟩ := hx.intv
    obtain ⟨u, rfl⟩ := hy.intv
    cases h
    exact call_range_2 S.freezeR
  · obtain ⟨a, rfl, h⟩ := withInt_inv h
    obtain ⟨b, rfl, h⟩ := withInt_inv h
    obtain ⟨d, rfl, h⟩ := withInt_inv h
    obtain ⟨hk, h⟩ := if_inv h
    cases h
    cases hv with | cons hx hv =>
    obtain ⟨y, z, rfl, hy, hz⟩ := VRs.two hv
    obtain ⟨t, rfl⟩ := hx.intv
    obtain ⟨u, rfl⟩ := hy.intv
    obtain ⟨v, rfl⟩ := hz.intv
    exact call_range_3 (Int.ne_of_gt hk.1) S.freezeR (.inl (PyProof.noPylong_small (by omega)))
  · exact no h
theorem bfV_sound {f : Bf} {args : List V} (S : SR G w σ s.heap) (hA : f.long = true → A.handled = none) (hv : VRs G w args xs) (hns : ∀ pr mt, f ≠ .sorted pr mt) (h : bfV f args σ = some (r, σ')) : wpAny G.M A (call (bfVal f) xs []) (QV G (VR G) w s r σ') Ex s := by
  cases f with
  | sorted pr mt => exact absurd rfl (hns pr mt)
  | range => exact range_sound S hv h
  | len =>
    obtain ⟨v, rfl, h⟩ := arg1_inv h
    obtain ⟨x, rfl, hx⟩ := hv.one
    obtain ⟨m, hm, rfl, rfl⟩ := retM_inv h
    exact len_sound S hx hm
  | min =>
    obtain ⟨a, b, rfl, h⟩ := arg2_inv h
    obtain ⟨x, y, rfl, hx, hy⟩ := hv.two
    obtain ⟨i, rfl, h⟩ := withInt_inv h
    obtain ⟨j, rfl, h⟩ := withInt_inv h
    obtain ⟨t, rfl⟩ := hx.intv
    obtain ⟨u, rfl⟩ := hy.intv
    cases h
    exact min_two_ints (hA rfl) fun h' tk k => ⟨w, (S.keeps k).postH, by split <;> exact .int _ _⟩
  | max =>
    obtain ⟨a, b, rfl, h⟩ := arg2_inv h
    obtain ⟨x, y, rfl, hx, hy⟩ := hv.two
    obtain ⟨i, rfl, h⟩ := withInt_inv h
    obtain ⟨j, rfl, h⟩ := withInt_inv h
    obtain ⟨t, rfl⟩ := hx.intv
    obtain ⟨u, rfl⟩ := hy.intv
    cases h
    exact max_two_ints (hA rfl) fun h' tk k => ⟨w, (S.keeps k).postH, by split <;> exact .int _ _⟩
  | abs =>
    obtain ⟨a, rfl, h⟩ := arg1_inv h
    obtain ⟨x, rfl, hx⟩ := hv.one
    obtain ⟨i, rfl, h⟩ := withInt_inv h
    obtain ⟨t, rfl⟩ := hx.intv
    cases h
    refine call_abs_int fun u tk => ?_
    rw [show (if i < 0 then -i else i) = (i.natAbs : Int) by split <;> omega]; exact S.outI
  | int =>
    obtain ⟨a, rfl, h⟩ := arg1_inv h
    obtain ⟨x, rfl, hx⟩ := hv.one
    obtain ⟨i, rfl, h⟩ := withBool_inv h
    obtain rfl := hx.boolv
    cases h
    exact call_int_bool S.outI
  | list =>
    obtain ⟨a, rfl, h⟩ := arg1_inv h
    obtain ⟨x, rfl, hx⟩ := hv.one
    obtain ⟨vs, hq, h⟩ := onO_inv h
    obtain ⟨l, ys, rfl, ⟨o, ho, hc, k, hdt⟩, hys, hlim⟩ := seqOf_sound S hx hq
    exact call_list_seq l (.inl rfl) ho hc hdt (fun h' c' hk hnew => mkL_at (tk := s.toks) S hys hlim h (get_size _) hk hnew) (hys.size ▸ lim_size0 hlim)
  | tuple =>
    obtain ⟨a, rfl, h⟩ := arg1_inv h
    obtain ⟨x, rfl, hx⟩ := hv.one
    obtain ⟨vs, hq, rfl, e⟩ := retM_inv h
    subst e
    obtain ⟨l, ys, rfl, hl, hys, hlim⟩ := seqOf_sound S hx hq
    refine call_tuple_list hl (fun h' hk => ?_) (hys.size ▸ lim_size0 hlim)
    have S' : SR G w _ ({ s with heap := h' } : Shared).heap := S.keeps hk
    exact Ahead.out (w := w) (s := { s with heap := h' }) ⟨.of _ _ s.toks, .refl _⟩ (S'.freeze (tk := s.toks) (.tup Wd.set_at rfl rfl (VRs.mono (Wd.le_set (S'.fresh (get_size _))).sub hys) hlim) rfl)
noncomputable def bmId : Bm → String
  | .append => "list.append" | .clear => "list.clear" | .pop => "dict.pop" | .get => "dict.get" | .startswith => "str.startswith" | .join => "str.join"
theorem kndV_inv {v : V} {k : Nat} (h : (kndV σ v == k) = true) (h0 : k ≠ 0) : (∃ s, v = .str s ∧ k = 3) ∨ ∃ i o, v = .ref i ∧ σ.get i = some o ∧ o.knd = k := by
  have h : kndV σ v = k := beq_iff_eq.mp h
  cases v with
  | str s => exact .inl ⟨s, rfl, h.symm⟩
  | ref i =>
    have h : (match σ.get i with | some o => o.knd | none => 0) = k := h
    cases e : σ.get i with
    | none => rw [e] at h; exact absurd h.symm h0
    | some o => rw [e] at h; exact .inr ⟨i, o, rfl, e, h⟩
  | _ => exact absurd h.symm h0
theorem DRel.type {κ : Type} [DecidableEq κ] {knd : PySem.KeyKind G.prog G.ω κ} {l : Bool} {i : Nat} {es : List (κ × V)} {p : Addr × Addr} (r : DRel G w s.heap i p knd l es) : s.TypeIs (.ref p.1) "dict" ∧ ∃ o, s.heap.get? p.1 = some o ∧ o.dict = none := by
  obtain ⟨_, o, kvs, r1, _, ⟨es, ep, ⟨x, y, _⟩, _⟩, _⟩ := r
  exact ⟨⟨_, r1, x⟩, _, r1, y⟩
theorem ORel.type {i : Nat} {p : Addr × Addr} {o : O} (r : ORel G w s.heap i p o) : (o.knd = 1 → s.TypeIs (.ref p.1) "list" ∧ ∃ o, s.heap.get? p.1 = some o ∧ o.dict = none) ∧ (o.knd = 2 → s.TypeIs (.ref p.1) "dict" ∧ ∃ o, s.heap.get? p.1 = some o ∧ o.dict = none) ∧ o.knd ≠ 3 := by
  cases o with
  | list => obtain ⟨_, xs, k, r1, _⟩ := r; exact ⟨fun _ => ⟨⟨_, r1, rfl⟩, _, r1, rfl⟩, fun q => (nomatch q), fun q => (nomatch q)⟩
  | di => exact ⟨fun q => (nomatch q), fun _ => DRel.type r, fun q => (nomatch q)⟩
  | ds => exact ⟨fun q => (nomatch q), fun _ => DRel.type r.1, fun q => (nomatch q)⟩
  | inst => exact ⟨fun q => (nomatch q), fun q => (nomatch q), fun q => (nomatch q)⟩
set_option maxRecDepth 20000 in
theorem bm_get {m : Bm} {o : V} {pl : Sem Bool} {Q : Value × List Value → Shared → Prop} (S : SR G w σ s.heap) (hv : VR G w o x) (hp : bmPre σ m o = true) (h : Q (.builtin (bmId m), [x]) s) : wpAny G.M A (getMethod x (Str.ofString (bmName m)) pl) Q Ex s := by
  rcases kndV_inv hp (by cases m <;> decide) with ⟨u, rfl, hm⟩ | ⟨i, ob, rfl, hg, hm⟩
  · obtain ⟨t, rfl, _⟩ := hv.strv
    cases m with
    | startswith => exact PySem.GM.startswith h
    | join => exact PySem.GM.join h
    | _ => cases hm
  · obtain ⟨p, hq, rfl⟩ := hv.refv
    obtain ⟨t1, t2, t3⟩ := (S.ref hq hg).type
    cases m with
    | append => exact getMethod_builtin (t1 hm).1 PySem.F.plainAttrs_list PySem.F.slot_list_append PySem.F.type_list_append (fun a e => by cases e; exact (t1 hm).2) h
    | clear => exact getMethod_builtin (t1 hm).1 PySem.F.plainAttrs_list PySem.F.slot_list_clear PySem.F.type_list_clear (fun a e => by cases e; exact (t1 hm).2) h
    | pop => exact getMethod_builtin (t2 hm).1 PySem.F.plainAttrs_dict PySem.F.slot_dict_pop PySem.F.type_dict_pop (fun a e => by cases e; exact (t2 hm).2) h
    | get => exact getMethod_builtin (t2 hm).1 PySem.F.plainAttrs_dict PySem.F.slot_dict_get PySem.F.type_dict_get (fun a e => by cases e; exact (t2 hm).2) h
    | startswith => exact absurd hm t3
    | join => exact absurd hm t3
theorem ER.rm {κ : Type} [DecidableEq κ] {es : List (κ × V)} {kvs : List (κ × Value)} (r : ER G w es kvs) (k : κ) : ER G w (rm es k) (without kvs k) := by
  induction r with
  | nil => exact .nil
  | @cons a b es kvs hv _ ih =>
    unfold Lw.rm without at *
    rw [List.filter_cons, List.filter_cons, hv.1]
    split
    · exact .cons hv ih
    · exact ih
theorem ER.st {κ : Type} [DecidableEq κ] {es : List (κ × V)} {kvs : List (κ × Value)} {v : V} (r : ER G w es kvs) (k : κ) (hv : VR G w v x) : ER G w (st es k v) (stored kvs k x) := by
  have key : (es.any fun kv => kv.1 = k) = (kvs.any fun kv => kv.1 = k) ∧ ER G w (es.map fun kv => if kv.1 = k then (kv.1, v) else kv) (kvs.map fun kv => if kv.1 = k then (kv.1, x) else kv) := by
    induction r with
    | nil => exact ⟨rfl, .nil⟩
    | @cons a b es kvs hab _ ih =>
      rw [List.any_cons, List.any_cons, List.map_cons, List.map_cons, ih.1, hab.1]
      refine ⟨rfl, .cons ?_ ih.2⟩
      split
      · exact ⟨rfl, hv⟩
      · exact hab
  unfold Lw.st stored
  rw [key.1]
  split
  · exact key.2
  · exact All2.append r (.cons ⟨rfl, hv⟩ .nil)
theorem len_rm {κ : Type} [DecidableEq κ] (es : List (κ × V)) (k : κ) : (rm es k).length ≤ es.length := List.length_filter_le _ _
theorem len_st {κ : Type} [DecidableEq κ] (es : List (κ × V)) (k : κ) (v : V) : (st es k v).length ≤ es.length + 1 := by
  unfold st; split
  · rw [List.length_map]; exact Nat.le_succ _
  · rw [List.length_append]; exact Nat.le_refl _
theorem strOk_join (sep : Str) (hs : PyData.strOk sep = true) : ∀ ss : List Str, (∀ x ∈ ss, PyData.strOk x = true) → PyData.strOk (Str.join sep ss) = true
  | [], _ => by simp [Str.join, PyData.strOk, Str.empty]
  | [x], h => h x (List.mem_cons_self ..)
  | x :: y :: r, h => strOk_append (strOk_append (h x (List.mem_cons_self ..)) hs) (strOk_join sep hs (y :: r) fun z hz => h z (List.mem_cons_of_mem _ hz))
theorem asStrs_sound {vs : List V} (h : VRs G w vs xs) : ∀ {ss : List Str}, asStrs vs = some ss → StrsAre xs ss ∧ (∀ y ∈ ss, sOk y = true) ∧ vs.length = ss.length := by
  induction h with
  | nil => intro ss e; cases e; exact ⟨.nil, fun _ q => (nomatch q), rfl⟩
  | cons a _ ih =>
    intro ss e
    obtain ⟨b, h1, e⟩ := onO_inv e
    obtain ⟨bs, h2, e⟩ := onO_inv e
    cases e
    obtain ⟨i, rfl, h1⟩ := withStr_inv h1
    cases h1
    obtain ⟨t, rfl, k⟩ := a.strv
    obtain ⟨i1, i2, i3⟩ := ih h2
    exact ⟨.cons _ _ i1, fun y hy => (List.mem_cons.mp hy).elim (fun e => e ▸ k) (i2 y), congrArg (· + 1) i3⟩
theorem starts_eq (x y : Str) : Txt.startswith x y = y.cps.toList.isPrefixOf x.cps.toList := by
  unfold Txt.startswith Builtin.Str.subAt
  simp only [Nat.zero_add]
  have hx : (x.cps.extract 0 y.length).toList = x.cps.toList.take y.cps.toList.length := by
    rw [Array.toList_extract]; simp [List.extract, Str.length]
  rw [Bool.eq_iff_iff, Bool.and_eq_true, beq_iff_eq, List.isPrefixOf_iff_prefix, List.prefix_iff_eq_take, ← hx, decide_eq_true_eq]
  constructor
  · exact fun h => congrArg Array.toList h.2.symm
  · intro h
    have e : x.cps.extract 0 y.length = y.cps := Array.toList_inj.mp h.symm
    refine ⟨?_, e⟩
    have h2 := congrArg Array.size e
    rw [Array.size_extract] at h2
    show y.cps.size ≤ x.cps.size
    have : y.length = y.cps.size := rfl
    omega
theorem VRs.push {vs : List V} {xs : Array Value} {v : V} (r : VRs G w vs xs.toList) (h : VR G w v x) : VRs G w (vs ++ [v]) (xs.push x).toList := by
  rw [Array.toList_push]; exact All2.append r (.cons h .nil)
theorem free_inv {o : O} {vs : List V} (h : o.free = some vs) : o = .list false vs := by
  cases o with
  | list lk us => cases lk with
    | false => cases h; rfl
    | true => exact no h
  | _ => exact no h
theorem freeAt_inv {i : Nat} {vs : List V} (h : (σ.get i).bind O.free = some vs) : σ.get i = some (.list false vs) := by
  obtain ⟨o, e, h⟩ := Option.bind_eq_some_iff.mp h
  rw [e, free_inv h]
theorem getArgs_inv {args : List V} {k : V → Option V → RV} {z : Res V × St} (h : getArgs args k = some z) : (∃ a, args = [a] ∧ k a none = some z) ∨ ∃ a d, args = [a, d] ∧ k a (some d) = some z := by
  rcases args with _ | ⟨a, _ | ⟨b, _ | _⟩⟩
  · exact no h
  · exact .inl ⟨_, rfl, h⟩
  · exact .inr ⟨_, _, rfl, h⟩
  · exact no h
theorem SR.updO {i : Nat} {p : Addr × Addr} {d : Addr} {o : O} {v : V} {h' : Heap} {tk : Nat} (S : SR G w σ s.heap) (hi : w.φ[i]? = some p) (hd : w.m d = some (.obj i)) (k : Heap.SameBut d s.heap h') (hx : ∃ y, h'.get? d = some y) (r : ORel G w h' i p o) (hv : VR G w v x) :
    Out G (VR G) w s v (σ.set i o) x { s with heap := h', toks := tk } := ⟨w, ⟨.of _ _ _, .refl _, S.upd hi hd k hx r⟩, hv⟩
theorem popD_sound {κ : Type} [DecidableEq κ] {knd : PySem.KeyKind G.prog G.ω κ} {i : Nat} {es : List (κ × V)} {p : Addr × Addr} {k : κ} {v : V} {o : O} (S : SR G w σ s.heap) (hp : w.φ[i]? = some p) (r : DRel G w s.heap i p knd false es) (hk : knd.is k y = true) (hkp : (keyPart y).isSome = true) (hv : lk es k = some v)
    (hO : ∀ h', DRel G w h' i p knd false (rm es k) → ORel G w h' i p o) : wpAny G.M A (call (.builtin "dict.pop") [.ref p.1, y] []) (Out G (VR G) w s v (σ.set i o)) Ex s := by
  obtain ⟨ep, ob, kvs, r1, rm, r2, r3, r4, r5⟩ := r
  obtain ⟨z, hz, hvz⟩ := (lk_valueAt r3 k).1 v hv
  have hD := Heap.dictOf_iff.mpr ⟨ob, r1, r2⟩
  refine call_meetsIn PySem.F.slot_dict_pop hD.mapOf.typeIs PySem.F.entry_dict_pop (PySem.F.args_dict_pop_2 _ _) (meets_dict_pop_there knd p.1 hk [] (.inl rfl) hkp) ⟨kvs, z, hD, All2.length r3 ▸ lim_size0 r4, hz, fun h' hD' hS => ?_⟩
  obtain ⟨o', ho', hdo⟩ := Heap.dictOf_iff.mp hD'
  exact S.updO hp rm hS ⟨_, ho'⟩ (hO h' ⟨ep, o', _, ho', rm, hdo, r3.rm k, Nat.le_trans (len_rm _ _) r4, r5⟩) hvz
theorem getD_sound {κ : Type} [DecidableEq κ] {knd : PySem.KeyKind G.prog G.ω κ} {i : Nat} {l : Bool} {es : List (κ × V)} {p : Addr × Addr} {k : κ} {d : V} (S : SR G w σ s.heap) (r : DRel G w s.heap i p knd l es) (hk : knd.is k y = true) (hd : VR G w d z) :
    (z = .none → wpAny G.M A (call (.builtin "dict.get") [.ref p.1, y] []) (Out G (VR G) w s ((lk es k).getD d) σ) Ex s) ∧ wpAny G.M A (call (.builtin "dict.get") [.ref p.1, y, z] []) (Out G (VR G) w s ((lk es k).getD d) σ) Ex s := by
  obtain ⟨_, ob, kvs, r1, _, r2, r3, _, r4⟩ := r
  have hD := Heap.dictOf_iff.mpr ⟨ob, r1, r2⟩
  have hval : VR G w ((lk es k).getD d) ((valueAt kvs k).getD z) := by
    cases q : lk es k with
    | none => rw [(lk_valueAt r3 k).2 q]; exact hd
    | some v => obtain ⟨z, hz, hvz⟩ := (lk_valueAt r3 k).1 v q; rw [hz]; exact hvz
  refine ⟨fun e => ?_, ?_⟩
  · subst e
    exact call_meetsIn PySem.F.slot_dict_get hD.mapOf.typeIs PySem.F.entry_dict_get (PySem.F.args_dict_get_2 _ _) (meets_dict_get knd p.1 hk (ne_beq r4)) ⟨_, hD.mapOf, S.outT hval⟩
  · exact call_meetsIn PySem.F.slot_dict_get hD.mapOf.typeIs PySem.F.entry_dict_get (PySem.F.args_dict_get_3 _ _ _) (meets_dict_get_default knd p.1 hk (ne_beq r4) _) ⟨_, hD.mapOf, S.outT hval⟩
theorem get_sound {i : Nat} {p : Addr × Addr} {o : O} {k d v : V} (S : SR G w σ s.heap) (rr : ORel G w s.heap i p o) (hk : VR G w k y) (hd : VR G w d z) (h : o.got k d = some v) :
    (z = .none → wpAny G.M A (call (.builtin "dict.get") [.ref p.1, y] []) (Out G (VR G) w s v σ) Ex s) ∧ wpAny G.M A (call (.builtin "dict.get") [.ref p.1, y, z] []) (Out G (VR G) w s v σ) Ex s := by
  cases o with
  | di l es =>
    obtain ⟨k, rfl, h⟩ := withInt_inv h
    cases h
    obtain ⟨t, rfl⟩ := hk.intv
    exact getD_sound S rr (isInt_self _ _) hd
  | ds l es =>
    obtain ⟨k, rfl, h⟩ := withStr_inv h
    cases h
    obtain ⟨t, rfl, _⟩ := hk.strv
    exact getD_sound S rr.1 (strKind_is _ _ _ _) hd
  | _ => exact no h
theorem pop_sound {i : Nat} {p : Addr × Addr} {o : O} {k : V} {q : V × O} (S : SR G w σ s.heap) (hp : w.φ[i]? = some p) (rr : ORel G w s.heap i p o) (hk : VR G w k y) (h : o.popped k = some q) :
    wpAny G.M A (call (.builtin "dict.pop") [.ref p.1, y] []) (Out G (VR G) w s q.1 (σ.set i q.2)) Ex s := by
  cases o with
  | di l es =>
    cases l with
    | true => exact no h
    | false =>
      obtain ⟨k, rfl, h⟩ := withInt_inv h
      obtain ⟨v, hv, rfl⟩ := Option.map_eq_some_iff.mp h
      obtain ⟨t, rfl⟩ := hk.intv
      exact popD_sound S hp rr (isInt_self _ _) rfl hv fun _ r => r
  | ds l es =>
    cases l with
    | true => exact no h
    | false =>
      obtain ⟨k, rfl, h⟩ := withStr_inv h
      obtain ⟨v, hv, rfl⟩ := Option.map_eq_some_iff.mp h
      obtain ⟨t, rfl, _⟩ := hk.strv
      exact popD_sound S hp rr.1 (strKind_is _ _ _ _) rfl hv fun _ r => ⟨r, fun kv q => rr.2 kv (List.mem_filter.mp q).1⟩
  | _ => exact no h
theorem bmV_sound {m : Bm} {o : V} {args : List V} (S : SR G w σ s.heap) (ho : VR G w o x) (hv : VRs G w args xs) (h : bmV m o args σ = some (r, σ')) : wpAny G.M A (call (.builtin (bmId m)) (x :: xs) []) (QV G (VR G) w s r σ') Ex s := by
  cases m with
  | append =>
    obtain ⟨i, rfl, h⟩ := withRef_inv h
    obtain ⟨v, rfl, h⟩ := arg1_inv h
    obtain ⟨vs, hg, h⟩ := onO_inv h
    obtain ⟨hl, h⟩ := if_inv h
    cases h
    obtain ⟨p, hp, rfl⟩ := ho.refv
    obtain ⟨y, rfl, a⟩ := hv.one
    obtain ⟨ep, ys, k, r1, rm, r2, r3⟩ := S.ref hp (freeAt_inv hg)
    exact wpAny_list_append_plain (l := p.1) ⟨k, r1⟩ (fun h' ⟨k', hk'⟩ hS => S.updO (tk := s.toks) hp rm hS ⟨_, hk'⟩ ⟨ep, _, k', hk', rm, r2.push a, by rw [List.length_append]; exact hl⟩ .none) (r2.size ▸ lim_size0 r3)
  | clear =>
    obtain ⟨i, rfl, h⟩ := withRef_inv h
    obtain ⟨rfl, h⟩ := arg0_inv h
    obtain ⟨vs, hg, h⟩ := onO_inv h
    cases h
    obtain ⟨p, hp, rfl⟩ := ho.refv
    obtain rfl := hv.none
    obtain ⟨ep, ys, k, r1, rm, r2, r3⟩ := S.ref hp (freeAt_inv hg)
    have hnew : ∃ k', (s.heap.update p.1 (Obj.mapSeq fun _ => #[])).get? p.1 = some (listObj #[] k') := ⟨_, Heap.get?_update_self _ r1 rfl⟩
    obtain ⟨k', hnew⟩ := hnew
    exact call_meets PySem.F.slot_list_clear ⟨_, r1, rfl⟩ PySem.F.entry_list_clear (PySem.F.args_list_clear_1 _) (PySem.AutoSeq1.list_clear_list_0 p.1 ys k (r2.size ▸ lim_size0 r3)) ⟨r1, S.updO hp rm (Heap.SameBut.update ..) ⟨_, hnew⟩ ⟨ep, _, _, hnew, rm, .nil, Nat.zero_le _⟩ .none⟩
  | pop =>
    obtain ⟨i, rfl, h⟩ := withRef_inv h
    obtain ⟨v, rfl, h⟩ := arg1_inv h
    obtain ⟨ob, hg, h⟩ := onO_inv h
    obtain ⟨q, hq, h⟩ := onO_inv h
    cases h
    obtain ⟨p, hp, rfl⟩ := ho.refv
    obtain ⟨y, rfl, a⟩ := hv.one
    exact pop_sound S hp (S.ref hp hg) a hq
  | get =>
    obtain ⟨i, rfl, h1⟩ := withRef_inv h
    obtain ⟨p, hp, rfl⟩ := ho.refv
    rcases getArgs_inv h1 with ⟨a, rfl, h⟩ | ⟨a, d, rfl, h⟩
    · obtain ⟨ob, hg, h⟩ := onO_inv h
      obtain ⟨y, rfl, ha⟩ := hv.one
      exact retV_inv h fun v hv => (get_sound S (S.ref hp hg) ha .none hv).1 rfl
    · obtain ⟨ob, hg, h⟩ := onO_inv h
      obtain ⟨y, z, rfl, ha, hb⟩ := hv.two
      exact retV_inv h fun v hv => (get_sound S (S.ref hp hg) ha hb hv).2
  | startswith =>
    obtain ⟨s1, rfl, h⟩ := withStr_inv h
    obtain ⟨v, rfl, h⟩ := arg1_inv h
    obtain ⟨s2, rfl, h⟩ := withStr_inv h
    cases h
    obtain ⟨t, rfl, _⟩ := ho.strv
    obtain ⟨y, rfl, a⟩ := hv.one
    obtain ⟨u, rfl, _⟩ := a.strv
    refine PySem.SC.startswith ?_
    rw [starts_eq]; exact S.outT (tk := s.toks) (.bool _)
  | join =>
    obtain ⟨sep, rfl, h⟩ := withStr_inv h
    obtain ⟨v, rfl, h⟩ := arg1_inv h
    obtain ⟨vs, hq, h⟩ := onO_inv h
    obtain ⟨ss, hss, h⟩ := onO_inv h
    obtain ⟨hl, h⟩ := if_inv h
    cases h
    obtain ⟨t, rfl, hsep⟩ := ho.strv
    obtain ⟨y, rfl, a⟩ := hv.one
    obtain ⟨l, ys, rfl, hL, hys, hlim⟩ := seqOf_sound S a hq
    obtain ⟨j1, j2, _⟩ := asStrs_sound hys hss
    refine join_listW hL j1 (by show sep.cps.size ≤ 16; omega) (by unfold lim at hl; omega) fun t' k => S.outT ?_
    rw [show Txt.join sep ss = Str.join sep ss from PySem.StrLaws.glued_eq_join sep ss]
    refine .str _ _ (sOk_iff.mpr ⟨strOk_join sep (sOk_iff.mp hsep).1 ss fun y hy => (sOk_iff.mp (j2 y hy)).1, ?_⟩)
    have := PySem.StrLaws.join_length_le sep ss
    rw [show sep.length = 0 from hl.1] at this
    show (Str.join sep ss).length ≤ lim
    omega
end
end Lw
namespace Lw
open PySem PySem.W PySem.Calls PyProof.Rows Builtin Builtin.ObjectAttr Builtin.Getset_descriptor
theorem and2B {a b : Bool} (h : (a && b) = true) : a = true ∧ b = true := Bool.and_eq_true_iff.mp h
theorem beqO {α : Type} [BEq α] [LawfulBEq α] {a b : α} (h : (a == b) = true) : a = b := beq_iff_eq.mp h
section
variable {K : Frag} {C N : Addr} {h : Heap} {x : Str}
theorem lacks_ns (X : K.In h) (e : lacks K N x = true) : ∃ m, h.Ns N m ∧ m x = none := by
  unfold lacks at e
  split at e
  · rename_i a b es ep sl ho
    obtain ⟨e1, e2⟩ := and2B e
    refine ⟨fun y => nsFind es y, ⟨_, es, ep, X _ _ ho, rfl, fun z hz => ?_, fun _ => rfl⟩, Option.isNone_iff_eq_none.mp e2⟩
    have hx := Array.all_eq_true_iff_forall_mem.mp e1 z hz
    cases hk : z.key <;> rw [hk] at hx <;> first | exact ⟨_, _, rfl⟩ | cases hx
  · cases e
theorem excTl_tail (X : K.In h) {l : List Value} (e : excTl K l = true) : OwnTail h excBm l := by
  unfold excTl at e
  split at e
  · rename_i A r
    obtain ⟨e1, e2⟩ := and2B e
    obtain rfl := of_decide_eq_true e2
    unfold clsIn at e1
    split at e1
    · rename_i cd hc
      split at hc
      · rename_i c0 dd cd' sl ho
        cases hc
        obtain ⟨m, h1, h2⟩ := lacks_ns X e1
        exact .own (X _ _ ho) h1 h2 .base
      · cases hc
    · cases e1
  · obtain rfl := of_decide_eq_true e; exact .base
theorem excObj_at (X : K.In h) (e : excObj K C = true) : ∃ nm q N bs bm hdct sn sub ab col dd k0 k1 k2 k3 k5 mN, h.get? C = some (excClassObj nm q C N bs bm hdct sn sub ab col dd k0 k1 k2 k3 k5 excNew) ∧ h.Ns N mN ∧ mN "__init__" = none ∧ OwnTail h excBm bm := by
  unfold excObj at e
  split at e
  · rename_i c dd cd sl ho
    obtain ⟨e1, e⟩ := and2B e
    obtain ⟨e2, e⟩ := and2B e
    obtain ⟨e3, e⟩ := and2B e
    obtain ⟨e4, e⟩ := and2B e
    obtain ⟨e5, e⟩ := and2B e
    obtain ⟨e6, e7⟩ := and2B e
    obtain ⟨nm, bs, mro, N, q, hdct, sn, sub, ab, col, hdel⟩ := cd
    obtain ⟨mN, n1, n2⟩ := lacks_ns X e6
    obtain ⟨l⟩ := sl
    obtain ⟨k0, k1, k2, k3, k5, rfl⟩ := six_places (l := l) (by simpa using of_decide_eq_true e4) (by simpa using of_decide_eq_true e5)
    obtain rfl := of_decide_eq_true e1
    obtain rfl : hdel = false := by simpa using e3
    have e2 := of_decide_eq_true e2
    cases mro with
    | nil => cases e2
    | cons a r =>
      cases e2
      exact ⟨nm, q, N, bs, r, hdct, sn, sub, ab, col, dd, k0, k1, k2, k3, k5, mN, X _ _ ho, n1, n2, excTl_tail X e7⟩
  · cases e
theorem excObj_cls (e : excObj K C = true) : ∃ c dd cd sl, K.lookup C = some ⟨c, dd, .cls cd, sl⟩ := by
  unfold excObj at e
  split at e
  · rename_i c dd cd sl ho; exact ⟨c, dd, cd, sl, ho⟩
  · cases e
end
section
variable {prog : Program} {w : World} {A : Around} {E : Value → Shared → Prop} {s : Shared} {K : Frag} {x C : Addr} {R : Result → Shared → Prop}
theorem exc_class_get {tp : Value} (X : K.In s.heap) (L0 : Looks (model prog w) s.heap (typeOf (.ref x)) (.ref C)) (hm : mroIn K C (.type "object") = some true)
    (h : R (.ok (.ret (.ref C))) s) : codeAny (model prog w) A (.call (.builtin "getset_descriptor.__get__") ⟨[.builtin "object.__class__", .ref x, tp], []⟩) R s := by
  obtain ⟨hh, g, dr, t, os⟩ := s
  have L1 := looks_mroIn (M := model prog w) X hm
  refine codeAny_call_builtin KF.slot_gs.plain KF.entry_gs (KF.slot_gs.check _ _ _ _ _ _ _ _ KF.type_class (KF.args_gs _ _ _) ?_)
  unfold Builtin.«getset_descriptor.__get__» descrGet
  rw [dga_obj]
  refine wpAny_bind (wpAny_pure ?_)
  unfold descrGetter descrCheckInstance descrNameAndClass isInstance
  simp only [KF.owner_class]
  repeat lk
  refine ⟨Code.quiet_builtin _ (by decide +kernel), codeAny_builtin KF.entry_class ?_⟩
  unfold Builtin.«object.__class__» shownTypeOf
  repeat lk
  exact h
theorem looks_data {M : Model} {h : Heap} {name : Str} {a g : Value} (X : K.In h) (ha : findIn K (.ref C) name = some (some a)) (hg : specialIn K a "__get__" = some (some g)) (ht : takesIn K a = some true) : Looks M h (find (.ref x) (.ref C) name) (.bind g a) :=
  (looks_findIn (M := M) X ha).andThen ((show Looks M h (getOf (some a)) (some g) from looks_specialIn X hg).andThen ((show Looks M h (dataDescriptor? (some a) (some g)) (some (g, a)) from (looks_takesIn X ht).andThen .now).andThen (Looks.tag .now)))
theorem bexc_kind : builtinKind "BaseException.__getattribute__" = some .slot := by decide +kernel
theorem bexc_split : splitId "BaseException.__getattribute__" = some ("BaseException", "__getattribute__") := by decide +kernel
theorem bexc_ne : (onTheHeap (Value.ref C) && Value.builtin "BaseException.__getattribute__" == Value.builtin "object.__getattribute__") = false := by
  rw [show (Value.builtin "BaseException.__getattribute__" == Value.builtin "object.__getattribute__") = false from by decide +kernel]; rfl
theorem exc_ga_check {nm : Value} {Q : Unit → Shared → Prop} (LI : Looks (model prog w) s.heap (isInstance (.ref x) (.type "BaseException")) true) (q : Q () s) : wpAny (model prog w) A (checkBuiltinCall "BaseException.__getattribute__" ⟨[.ref x, nm], []⟩) Q E s :=
  check_slot (i := "BaseException.__getattribute__") (owner := "BaseException") (n := "__getattribute__") (self := .ref x) (rest := [nm]) (kw := []) bexc_kind bexc_split LI (F.args_bexc_ga (.ref x) nm) q
theorem exc_ga_entry {tk : Tok} {Q : PySem.Fin → Shared → Prop} (X : K.In s.heap) (LT : Looks (model prog w) s.heap (typeOf (.ref x)) (.ref C)) (L3 : Looks (model prog w) s.heap (find (.ref x) (.ref C) "__class__") (.bind (.builtin "getset_descriptor.__get__") (.builtin "object.__class__"))) (e6 : mroIn K C (.type "object") = some true) (h : Q (.done (.ret (.ref C))) s) :
    wpAny (model prog w) A (Builtin.«object.__getattribute__» ⟨[.ref x, .str "__class__" tk], []⟩) Q E s := by
  obtain ⟨hh, g, d, t, os⟩ := s
  unfold Builtin.«object.__getattribute__»
  refine wpAny_bind (wpAny_pure (wpAny_bind (wpAny_pure (wpAny_bind (LT.at (wpAny_bind (L3.at ?_)))))))
  show wpAny _ _ (bindTo (.builtin "getset_descriptor.__get__") (.builtin "object.__class__") (.ref x) (.ref C)) _ _ _
  unfold bindTo
  exact wpAny_bind (wpAny_holding (wpAny_call (exc_class_get X LT e6 (wpAny_pure h))))
theorem exc_ga_call {tk : Tok} {R : Result → Shared → Prop} (X : K.In s.heap) (LT : Looks (model prog w) s.heap (typeOf (.ref x)) (.ref C)) (LI : Looks (model prog w) s.heap (isInstance (.ref x) (.type "BaseException")) true) (L3 : Looks (model prog w) s.heap (find (.ref x) (.ref C) "__class__") (.bind (.builtin "getset_descriptor.__get__") (.builtin "object.__class__"))) (e6 : mroIn K C (.type "object") = some true) (h : R (.ok (.ret (.ref C))) s) :
    codeAny (model prog w) A (.call (.builtin "BaseException.__getattribute__") ⟨[.ref x, .str "__class__" tk], []⟩) R s :=
  codeAny_call_builtin F.attr_ValueError.ga.plain F.entry_bexc_ga (exc_ga_check LI (exc_ga_entry X LT L3 e6 h))
theorem exc_class {Q : Option Value → Shared → Prop} (X : K.In s.heap) (L0 : ∀ M, Looks M s.heap (typeOf (.ref x)) (.ref C)) (e : excAtt K C = true) (h : Q (some (.ref C)) { s with toks := s.toks + 1 }) : wpAny (model prog w) A (getAttr? (.ref x) "__class__") Q E s := by
  unfold excAtt at e
  obtain ⟨e1, e⟩ := and2B e
  obtain ⟨e2, e⟩ := and2B e
  obtain ⟨e3, e⟩ := and2B e
  obtain ⟨e4, e⟩ := and2B e
  obtain ⟨e5, e⟩ := and2B e
  obtain ⟨e6, e7⟩ := and2B e
  have L1 := looks_findIn (M := model prog w) X (beqO e1)
  have L2 := looks_findIn (M := model prog w) X (beqO e2)
  have L3 := looks_data (M := model prog w) (x := x) X (beqO e3) (beqO e4) (beqO e5)
  have L7 := looks_mroIn (M := model prog w) X (beqO e7)
  have LT := L0 (model prog w)
  have LI : Looks (model prog w) s.heap (isInstance (.ref x) (.type "BaseException")) true := LT.andThen L7
  have e6 := beqO e6
  obtain ⟨hh, g, d, t, os⟩ := s
  unfold getAttr? getAttrBy? getAttrBy
  refine wpAny_bind (wpAny_mkText (wpAny_bind (wpAny_attempt (wpAny_holding (wpAny_bind (LT.at (wpAny_bind (L1.at ?_))))))))
  dsimp only
  rw [bexc_ne]
  rw [if_neg Bool.false_ne_true]
  unfold getAttrByItsOwn
  refine wpAny_bind ?_
  unfold hookBefore
  rw [if_pos (show onTheHeap (Value.ref C) = true from rfl)]
  refine L2.at (wpAny_bind (wpAny_attempt (wpAny_holding ?_)))
  unfold callGetattribute
  rw [show (false && onTheHeap (Value.builtin "BaseException.__getattribute__")) = false from rfl, if_neg Bool.false_ne_true]
  unfold boundAndCalled
  rw [F.attr_ValueError.ga.bind]
  refine wpAny_bind (wpAny_pure (wpAny_call (exc_ga_call X LT LI L3 e6 ?_)))
  exact handed_on rfl (wpAny_pure h)
end
section
variable {K : Frag} {x C : Addr}
theorem kitx_exc (h1 : excObj K C = true) (h2 : excAtt K C = true) : KitX K (.ref x) (.ref C) (fun h => ∃ o, h.get? x = some o ∧ o.cls = .ref C) where
  ty := fun _ _ _ ⟨_, e1, e2⟩ => e2 ▸ (Looks.ld e1).andThen .now
  it := fun _ _ X _ => by
    obtain ⟨c, dd, cd, sl, ho⟩ := excObj_cls h1
    intro A' Q' E' s' k q
    unfold isType loadHead
    exact wpAny_bind (wpAny_loadPart (k _ _ (X _ _ ho)) (wpAny_pure q))
  ne := fun h tp dd its n sl X htp => by
    obtain ⟨c, dd, cd, sl, ho⟩ := excObj_cls h1
    refine Bool.eq_false_iff.mpr fun q => ?_
    have e : C = tp := Value.ref.inj (beq_iff_eq.mp q)
    subst e
    have z := (X _ _ ho).symm.trans htp
    cases z
  ca := fun X ⟨_, e1, e2⟩ k => exc_class X (fun _ => e2 ▸ (Looks.ld e1).andThen .now) h2 k
end
section
variable {G : Gl} {w : Wd} {c d : String} {C D : Addr}
theorem Base.excs (B : Base G w) (h : ExcCls G c C) : excObj G.K C = true ∧ excAtt G.K C = true ∧ kitOne G.K (.ref C) (.type "ValueError") = some true ∧ ∀ d D, (d ∈ G.com.excs ∨ d ∈ G.com.cls) → clsAt G.K d = some D → kitOne G.K (.ref C) (.ref D) = some (G.P.sub c d) ∧ mroIn G.K C (.ref D) = some (G.P.sub c d) := by
  have e := B.exc c h.1
  unfold excOk at e
  rw [h.2] at e
  obtain ⟨e1, e⟩ := and2B e
  obtain ⟨e2, e⟩ := and2B e
  obtain ⟨e3, e4⟩ := and2B e
  refine ⟨e1, e2, beqO e3, fun d D hd hD => ?_⟩
  have z := List.all_eq_true.mp e4 d (List.mem_append.mpr hd)
  rw [hD] at z
  exact ⟨beqO (and2B z).1, beqO (and2B z).2⟩
end
end Lw
namespace Lw
open PySem PySem.W PySem.Calls PyProof.Rows
noncomputable def tyVal (K : Frag) : Ty → Option Value
  | .int => some (.type "int") | .bool => some (.type "bool") | .str => some (.type "str") | .tuple => some (.type "tuple") | .list => some (.type "list") | .valueError => some (.type "ValueError")
  | .own c => (clsAt K c).map .ref
theorem looks_cls {M : Model} {h : Heap} {a : Addr} {o : Obj} (e : h.get? a = some o) : Looks M h (typeOf (.ref a)) o.cls := (Looks.ld e).andThen .now
section
variable {G : Gl} {n : Nat} {cx : Cxt} {w w' w₀ : Wd} {s s' s₀ : Shared} {σ σ' : St} {A : Around} {env : Env} {Ex : Value → Shared → Prop} {Q : Value → Shared → Prop} {x y z : Value} {pos : Pos} {xs : List Value} {r : Res V}
theorem SR.outB {b : Bool} {tk : Nat} (S : SR G w σ s.heap) : Out G (VR G) w s (.bool b) σ (.bool b) { s with toks := tk } := ⟨w, S.postH, .bool _⟩
theorem flat_inv {v : V} {k : Nat} (hv : VR G w v x) (h : flatKind v = some k) : (x = .none ∧ k = 0) ∨ (∃ b, x = .bool b ∧ k = 1) ∨ (∃ i t, x = .int i t ∧ k = 2) ∨ ∃ u t, x = .str u t ∧ k = 3 := by
  cases v with
  | none => cases hv; cases h; exact .inl ⟨rfl, rfl⟩
  | bool => cases hv; cases h; exact .inr (.inl ⟨_, rfl, rfl⟩)
  | int => cases hv; cases h; exact .inr (.inr (.inl ⟨_, _, rfl, rfl⟩))
  | str => cases hv; cases h; exact .inr (.inr (.inr ⟨_, _, rfl, rfl⟩))
  | _ => exact no h
theorem withExc_inv {α : Type} {v : V} {k : String → Option α} {z : α} (h : withExc v k = some z) : ∃ c, v = .exc c ∧ k c = some z := by
  cases v with
  | exc c => exact ⟨c, rfl, h⟩
  | _ => exact no h
theorem exc_isi {c : String} {tv : Value} {b : Bool} (S : SR G w σ s.heap) (B : Base G w) (hv : VR G w (.exc c) x) (hk : ∀ C, ExcCls G c C → kitOne G.K (.ref C) tv = some b) : wpAny G.M A (call (.builtin "isinstance") [x, tv]) (Out G (VR G) w s (.bool b) σ) Ex s := by
  cases hv with
  | exc e1 e2 e3 e4 =>
    obtain ⟨q1, q2, _⟩ := B.excs e4
    exact kia_one (kitx_exc q1 q2) (B.kin S) ⟨_, S.at e1, e2⟩ (hk _ e4) (fun e => nomatch e) fun tk => S.outB
theorem isinstV_sound {v : V} {tv : Value} {t : Ty} {b : Bool} (S : SR G w σ s.heap) (B : Base G w) (hv : VR G w v x) (ht : tyVal G.K t = some tv) (hd : ∀ d, t = .own d → d ∈ G.com.excs ∨ d ∈ G.com.cls) (hb : isinstV G.P σ v t = some b) : wpAny G.M A (call (.builtin "isinstance") [x, tv]) (Out G (VR G) w s (.bool b) σ) Ex s := by
  cases t with
  | int =>
    cases ht
    obtain ⟨k, hk, rfl⟩ := Option.map_eq_some_iff.mp hb
    rcases flat_inv hv hk with ⟨rfl, rfl⟩ | ⟨b, rfl, rfl⟩ | ⟨i, t, rfl, rfl⟩ | ⟨u, t, rfl, rfl⟩
    · exact IsiPair.NoneType_int S.outB
    · exact IsiPair.bool_int (S.outB (tk := s.toks))
    · exact IsiPair.int_int (S.outB (tk := s.toks))
    · exact IsiPair.str_int S.outB
  | bool =>
    cases ht
    obtain ⟨k, hk, rfl⟩ := Option.map_eq_some_iff.mp hb
    rcases flat_inv hv hk with ⟨rfl, rfl⟩ | ⟨b, rfl, rfl⟩ | ⟨i, t, rfl, rfl⟩ | ⟨u, t, rfl, rfl⟩
    · exact IsiPair.NoneType_bool S.outB
    · exact IsiPair.bool_bool (S.outB (tk := s.toks))
    · exact IsiPair.int_bool S.outB
    · exact IsiPair.str_bool S.outB
  | str =>
    cases ht
    obtain ⟨k, hk, rfl⟩ := Option.map_eq_some_iff.mp hb
    rcases flat_inv hv hk with ⟨rfl, rfl⟩ | ⟨b, rfl, rfl⟩ | ⟨i, t, rfl, rfl⟩ | ⟨u, t, rfl, rfl⟩
    · exact IsiPair.NoneType_str S.outB
    · exact IsiPair.bool_str S.outB
    · exact IsiPair.int_str S.outB
    · exact IsiPair.str_str (S.outB (tk := s.toks))
  | tuple =>
    cases ht
    cases v with
    | tup vs =>
      cases hb
      obtain ⟨a, o, xs, k, rfl, h1, h2, _⟩ := hv.tupv S
      exact IsiPair.tuple_tuple h1 h2 (S.outB (tk := s.toks))
    | _ => exact no hb
  | list =>
    cases ht
    obtain ⟨vs, hq, rfl⟩ := Option.map_eq_some_iff.mp hb
    obtain ⟨a, xs, rfl, ⟨o, h1, h2, _⟩, _⟩ := seqOf_sound S hv hq
    exact IsiPair.list_list h1 h2 (S.outB (tk := s.toks))
  | valueError =>
    cases ht
    obtain ⟨c, rfl, hb⟩ := withExc_inv hb
    cases hb
    exact exc_isi S B hv fun C h => (B.excs h).2.2.1
  | own d =>
    obtain ⟨C, hC, rfl⟩ := Option.map_eq_some_iff.mp ht
    rcases orElse_inv hb with hb | hb
    · obtain ⟨c, rfl, hb⟩ := withExc_inv hb
      cases hb
      exact exc_isi S B hv fun C' h => ((B.excs h).2.2.2 d C (hd d rfl) hC).1
    obtain ⟨i, rfl, hb⟩ := withRef_inv hb
    obtain ⟨o, hg, hb⟩ := onO_inv hb
    cases o with
    | inst c fs =>
      obtain ⟨e, hb⟩ := if_inv hb
      cases hb
      subst e
      obtain ⟨p, hp, rfl⟩ := hv.refv
      obtain ⟨C', es, k, I, hC', _⟩ := inst_of B S hp hg
      rw [hC] at hC'; cases hC'
      exact isi_call (B.kin S) (t := .ref C) (fun M => looks_cls I.I.1) (by unfold isIn; simp) (fun e => nomatch e) (S.outB (tk := s.toks))
    | _ => exact no hb
theorem boot_bf (f : Bf) : bootBuiltins (Str.ofString (bfName f)) = some (bfVal f) ∧ Str.ofString (bfName f) ≠ "__name__" := by
  cases f <;> exact ⟨by kernel_rfl, by first | decide | (show Str.ofString "sorted" ≠ _; decide)⟩
theorem keeps_bf (f : Bf) : KeepsK G (bfVal f) := by cases f <;> first | exact keeps_builtin | exact keeps_type
theorem wp_qv {β : Type} {R : Wd → V → β → Prop} {t : Sem β} (A0 : Ahead w₀ s₀ w s) (h : wpAny G.M A t (QV G R w s r σ') Ex s) : wpAny G.M A t (QV G R w₀ s₀ r σ') Ex s := wpAny_mono h (fun _ _ q => A0.qv q) fun _ _ q => q
theorem Pt.long (X : Pt G n cx) {b : Bool} (h : ¬ (b && X.hd) = true) (e : b = true) : X.A.handled = none := X.hA.handled (by subst e; simpa using h)
noncomputable def SortOk (G : Gl) (pr : Bool) : Prop := ∀ (n : Nat) (cx : Cxt) (X : Pt G n cx) (mt : Bool) (args : List V) (xs : List Value) (r : Res V) (σ' : St) (Ex : Value → Shared → Prop), X.A.handled = none → VRs G X.w args xs → bfV (.sorted pr mt) args X.σ = some (r, σ') → wpAny G.M X.A (call (.builtin "sorted") xs []) (QV G (VR G) X.w X.s r σ') Ex X.s
theorem sim_bcall {f : Bf} {es : List E} {xs : List Expr} {p : Pos} (hso : ∀ pr mt, f = .sorted pr mt → SortOk G pr) (hg : cx.isGlob (Str.ofString (bfName f)) = true) (hk : nsIn G.K mainGlobals (Str.ofString (bfName f)) = some none) (ha : Sims G n cx es xs) :
    Sim G n cx (.bcall f es) (.Call (.Name (Str.ofString (bfName f)) p) xs [] pos) :=
  .of (fun X r σ' hev => callName_sound (kn := []) (kes := []) (ks := []) (k := fun vs _ σ => if f.long && X.hd then none else bfV f vs σ) X (fun hQ => glob_bi X hg hk (boot_bf f).1 (boot_bf f).2 hQ) (keeps_bf f) ha .nil hev fun vs us xv yv w₁ σ₁ s₁ p hv hu hk => by
    obtain ⟨hl, hk⟩ := ifn_inv hk
    have hl := X.long hl
    refine wp_qv p.ahead ?_
    cases f with
    | sorted pr mt => exact hso pr mt rfl n cx (X.to p) mt vs xv r σ' _ (hl rfl) hv hk
    | _ => exact bfV_sound p.S hl hv (fun pr mt q => nomatch q) hk) fun _ _ => rfl
theorem sim_bmeth {m : Bm} {o : E} {es : List E} {oe : Expr} {xs : List Expr} {ap : Pos} (hsup : notSuper oe = true) (hpos : (ap.endLine == pos.line) = true) (hl : xs.length < 10) (ho : Sim G n cx o oe) (ha : Sims G n cx es xs) :
    Sim G n cx (.bmeth m o es) (.Call (.Attribute oe (Str.ofString (bmName m)) ap) xs [] pos) :=
  .of (fun X r σ' hev => wpAny_Call_Attr hsup hpos ha .nil hl (by decide) (ho.bind X .refl hev fun x xv w₁ σ₁ s₁ p hx hk pl => by
    obtain ⟨hpre, hk⟩ := if_inv hk
    exact bm_get p.S hx hpre (callWith_sound (kn := []) (kes := []) (ks := []) (k := fun vs _ σ => if m.long && X.hd then none else bmV m x vs σ) keeps_builtin ha .nil (X.to p) p.ahead hk fun vs us yv zv w₂ σ₂ s₂ q hv hu hk => wp_qv (p.ahead.step q) (bmV_sound q.S (hx.mono q.hw.sub) hv (ifn_inv hk).2)))) fun _ _ => rfl
theorem sim_isinst {a : E} {t : Ty} {x : Expr} {tv : Value} {p p2 : Pos} (hg : cx.isGlob ("isinstance" : Str) = true) (hk : nsIn G.K mainGlobals ("isinstance" : Str) = some none) (hst : notStar x = true) (ht : tyVal G.K t = some tv) (hd : ∀ d, t = .own d → d ∈ G.com.excs ∨ d ∈ G.com.cls)
    (hname : ∀ (X : Pt G n cx) (Ex Q : Value → Shared → Prop), Q tv X.s → wpAny G.M X.A (eval (.Name (Str.ofString (tyName t)) p2) X.env) Q Ex X.s) (ha : Sim G n cx a x) :
    Sim G n cx (.isinst a t) (.Call (.Name ("isinstance" : Str) p) [x, .Name (Str.ofString (tyName t)) p2] [] pos) :=
  .of (fun X r σ' hev => wpAny_Call_Name_kw (glob_bi (v := .builtin "isinstance") X hg hk (by kernel_rfl) (by decide) (by
    rw [show backTo pos (starEach [x, .Name (Str.ofString (tyName t)) p2] X.env) = [(false, eval x X.env), (false, eval (.Name (Str.ofString (tyName t)) p2) X.env)] by rw [star_plain hst, star_plain rfl]; rfl]
    exact callWith_of (P := G.K.In) rfl keeps_builtin (evalArgs_kw rfl (spliced_cons (ha.bind X .refl hev fun y yv w₁ σ₁ s₁ q hy hk1 => spliced_cons (hname (X.to q) _ _ (spliced_nil (wpAny_evalAll_nil ⟨(X.to q).B.kin q.S, retB_inv hk1 fun b hb => wp_out q.ahead (isinstV_sound q.S (X.to q).B hy ht hd hb)⟩))))))))) fun _ _ => rfl
theorem sim_chain {a b d : E} {l m r : Expr} (hns : notSetE r = true) (ha : Sim G n cx a l) (hb : Sim G n cx b m) (hd : Sim G n cx d r) :
    Sim G n cx (.chain a b d) (.Compare l [.LtE, .LtE] [m, r] pos) := by
  have hm : lastMarks [CmpOp.LtE, CmpOp.LtE] [m, r] = false := marks_of (op := .LtE) hns
  have core : ∀ (X : Pt G n cx) (rr : Res V) (σ' : St) (R : Value → Shared → Prop) (R' : Shared → Prop), X.ev (.chain a b d) = some (rr, σ') → (∀ t w' s', Post G X.w X.s w' σ' s' → rr = .ok (.bool t) → R (.bool t) s' ∧ (t = false → R' s')) →
      wpAny G.M X.A (eval l X.env) (fun x s₁ => wpAny G.M X.A (eval m X.env) (fun y s₂ => wpAny G.M X.A (compareOp .LtE x y) (fun v s₃ => wpAny G.M X.A (truthy v) (fun t s₄ => if t then
        wpAny G.M X.A (eval r X.env) (fun z s₅ => wpAny G.M X.A (compareOp .LtE y z) R (QX G X.w X.s X.envs rr σ') s₅) (QX G X.w X.s X.envs rr σ') s₄ else v = .bool false ∧ R (.bool false) s₄ ∧ R' s₄) (QX G X.w X.s X.envs rr σ') s₃) (QX G X.w X.s X.envs rr σ') s₂) (QX G X.w X.s X.envs rr σ') s₁) (QX G X.w X.s X.envs rr σ') X.s :=
    fun X rr σ' R R' hev hR => ha.bind X .refl hev fun x xv w₁ σ₁ s₁ p hx hk => hb.bind (X.to p) p.ahead hk fun y yv w₂ σ₂ s₂ q hy hk => by
      obtain ⟨t, ht, hk⟩ := onO_inv hk
      refine cmpV_sound (op := .le) q.S X.u64 (hx.mono q.hw.sub) hy ht fun tk => wpAny_truthy_bool ?_
      have p2 := (p.ahead.step q).post (q.S.postH (tk := tk) (h := s₂.heap) (s := s₂))
      cases t with
      | false =>
        cases hk
        have h := hR false w₂ _ p2 rfl
        exact ⟨rfl, h.1, h.2 rfl⟩
      | true =>
        refine hd.bind (X.to p2) p2.ahead hk fun z zv w₃ σ₃ s₃ q3 hz hk => ?_
        obtain ⟨t, ht, e⟩ := Option.map_eq_some_iff.mp hk
        cases e
        exact cmpV_sound (op := .le) q3.S X.u64 (hy.mono q3.hw.sub) hz ht fun tk => (hR t w₃ _ ((p2.ahead.step q3).post q3.S.postH) rfl).1
  refine ⟨fun X rr σ' hev => Compare_chain (rs := []) (ops := []) (wpAny_mono (core X rr σ' (QV G (VR G) X.w X.s rr σ') (fun _ => True) hev fun t w' s' p e => ⟨by subst e; exact ⟨w', p, .bool _⟩, fun _ => trivial⟩) (fun x s₁ h => chain_link (wpAny_mono h (fun y s₂ h => wpAny_mono h (fun v s₃ h => wpAny_mono h (fun t s₄ h => ?_) fun _ _ q => q) fun _ _ q => q) fun _ _ q => q)) fun _ _ q => q) hm,
    fun X rr σ' hev ht => isTrue_chain (rs := []) (ops := []) (wpAny_mono (core X rr σ' (fun v s => wpAny G.M X.A (truthy v) (QV G (fun _ a t => truthV σ' a = some t) X.w X.s rr σ') (QX G X.w X.s X.envs rr σ') s) (fun s => QV G (fun _ a t => truthV σ' a = some t) X.w X.s rr σ' false s) hev fun t w' s' p e => by subst e; exact ⟨wpAny_truthy_bool ⟨w', p, rfl⟩, fun e => by subst e; exact ⟨w', p, rfl⟩⟩) (fun x s₁ h => test_link (wpAny_mono h (fun y s₂ h => wpAny_mono h (fun v s₃ h => wpAny_mono h (fun t s₄ h => ?_) fun _ _ q => q) fun _ _ q => q) fun _ _ q => q)) fun _ _ q => q) hm⟩
  · cases t with
    | true => exact chain_last h
    | false => have h : v = .bool false ∧ _ := h; rw [h.1]; exact h.2.1
  · cases t with
    | true => exact test_last h
    | false => exact h.2.2
end
end Lw
namespace Lw
open PySem PySem.W PySem.Calls PyProof.Rows
structure Frm (w₀ w : Wd) (env : Env) : Prop where
  frm : env.frame = some env.locals
  out : w₀.m env.locals = none
  cout : ∀ x a, env.cells.lookup x = some a → w₀.m a = none
  cells : ∀ x a, env.cells.lookup x = some a → ∃ o v, w.m a = some (.fr o) ∧ o.data = .cell v
  inj : ∀ x y a, env.cells.lookup x = some a → env.cells.lookup y = some a → x = y
theorem Frm.mono {w₀ w w' : Wd} {env : Env} (M : Frm w₀ w env) (h : w.Le w') : Frm w₀ w' env :=
  ⟨M.frm, M.out, M.cout, fun x a e => let ⟨o, v, p, q⟩ := M.cells x a e; ⟨o, v, h.m _ _ p, q⟩, M.inj⟩
structure PtS (G : Gl) (n : Nat) (cx : Cxt) where
  hd : Bool
  dr : Bool
  w₀ : Wd
  w : Wd
  ρ : Rho
  σ : St
  env : Env
  envs : List Env
  A : Around
  s : Shared
  B : Base G w₀
  le : w₀.Le w
  S : SR G w σ s.heap
  F : FR G w env cx.vis ρ
  M : Frm w₀ w env
  hn : Fits G cx env
  hA : AOK A n hd w₀ envs
  fr : A.frames = some (env :: envs)
structure SPost (G : Gl) (vis : List (Str × Nat)) (w₀ : Wd) (s : Shared) (env : Env) (w' : Wd) (ρ' : Rho) (σ' : St) (s' : Shared) : Prop where
  hs : Same s s'
  le : w₀.Le w'
  S : SR G w' σ' s'.heap
  F : FR G w' env vis ρ'
  M : Frm w₀ w' env
noncomputable def QS (G : Gl) (vis : List (Str × Nat)) (w₀ : Wd) (s : Shared) (env : Env) : Fl → Rho → St → Flow → Shared → Prop
  | .next, ρ', σ' => fun f s' => f = .next ∧ ∃ w', SPost G vis w₀ s env w' ρ' σ' s'
  | .ret v, ρ', σ' => fun f s' => ∃ x w', f = .ret x ∧ SPost G vis w₀ s env w' ρ' σ' s' ∧ VR G w' v x
  | .exc _, _, _ => fun _ _ => False
noncomputable def XM (G : Gl) (w : Wd) (s : Shared) (x : String) (σ' : St) (e : Value) (s' : Shared) : Prop :=
  ∃ (ea C : Addr) (args : List Value) (h : Heap), e = .ref ea ∧ ExcCls G x C ∧ Same s s' ∧ SR G w σ' h ∧ Heap.MadeExcOf h s'.heap ea (.ref C) args
noncomputable def QXS (G : Gl) (vis : List (Str × Nat)) (w₀ : Wd) (s : Shared) (env : Env) (envs : List Env) (dr : Bool) : Fl → Rho → St → Value → Shared → Prop
  | .exc x, ρ', σ' => fun e s' => ∃ w₁, w₀.Le w₁ ∧ FR G w₁ env vis ρ' ∧ Frm w₀ w₁ env ∧ (XP G w₁ s (env :: envs) x σ' e s' ∨ (dr = true ∧ XM G w₁ s x σ' e s'))
  | _, _, _ => fun _ _ => False
section
variable {G : Gl} {n : Nat} {cx : Cxt} {w w' w₀ : Wd} {s s' s₀ : Shared} {σ σ' : St} {ρ ρ' : Rho} {env : Env} {envs : List Env} {fl : Fl} {vis : List (Str × Nat)} {pos : Pos}
theorem SPost.mono (hs : Same s₀ s) (q : SPost G vis w₀ s env w' ρ' σ' s') : SPost G vis w₀ s₀ env w' ρ' σ' s' := ⟨hs.trans q.hs, q.le, q.S, q.F, q.M⟩
theorem QS.mono {f : Flow} (hs : Same s₀ s) (q : QS G vis w₀ s env fl ρ' σ' f s') : QS G vis w₀ s₀ env fl ρ' σ' f s' := by
  cases fl with
  | next => exact ⟨q.1, let ⟨w', p⟩ := q.2; ⟨w', p.mono hs⟩⟩
  | ret => exact let ⟨x, w', e, p, v⟩ := q; ⟨x, w', e, p.mono hs, v⟩
  | exc => exact q
theorem QXS.mono {dr : Bool} {e : Value} (hs : Same s₀ s) (q : QXS G vis w₀ s env envs dr fl ρ' σ' e s') : QXS G vis w₀ s₀ env envs dr fl ρ' σ' e s' := by
  cases fl with
  | exc => exact let ⟨w₁, a, b, c, d⟩ := q; ⟨w₁, a, b, c, d.imp (fun d => d.mono ⟨hs, .refl _⟩) fun ⟨e, ea, C, args, h, e1, e2, e3, r⟩ => ⟨e, ea, C, args, h, e1, e2, hs.trans e3, r⟩⟩
  | _ => exact q
noncomputable def PtS.pt (Y : PtS G n cx) : Pt G n cx where
  hd := Y.hd
  w := Y.w
  ρ := Y.ρ
  σ := Y.σ
  env := Y.env
  envs := Y.env :: Y.envs
  A := Y.A
  s := Y.s
  B := Y.B.mono Y.le.sub
  S := Y.S
  F := Y.F
  hn := Y.hn
  hA := ⟨Y.hA.handled, Y.hA.depth, Y.hA.units, fun e q => (List.mem_cons.mp q).elim (fun q => q ▸ ⟨Y.F.kind, let ⟨o, _, a, _⟩ := Y.F.ns; ⟨_, o, Y.M.frm, a⟩⟩) fun q => let ⟨a, L, o, x, y⟩ := Y.hA.frs e q; ⟨a, L, o, x, Y.le.m _ _ y⟩⟩
  fr := Y.fr
noncomputable def PtS.to (Y : PtS G n cx) (p : Post G Y.w Y.s w' σ' s') : PtS G n cx := { Y with w := w', σ := σ', s := s', le := Y.le.trans p.hw, S := p.S, F := Y.F.mono p.hw, M := Y.M.mono p.hw }
noncomputable def PtS.next (Y : PtS G n cx) (q : SPost G cx.vis Y.w₀ s Y.env w' ρ' σ' s') : PtS G n cx := { Y with w := w', ρ := ρ', σ := σ', s := s', le := q.le, S := q.S, F := q.F, M := q.M }
theorem PtS.post (Y : PtS G n cx) : SPost G cx.vis Y.w₀ Y.s Y.env Y.w Y.ρ Y.σ Y.s := ⟨.refl _, Y.le, Y.S, Y.F, Y.M⟩
noncomputable def PtS.exec (Y : PtS G n cx) (ir : Lw.S) : RS := Lw.exec G.P (run G.P n) Y.hd Y.dr ir Y.ρ Y.σ
noncomputable def PtS.execs (Y : PtS G n cx) (ir : List Lw.S) : RS := Lw.execs G.P (run G.P n) Y.hd Y.dr ir Y.ρ Y.σ
noncomputable def SimS (G : Gl) (n : Nat) (cx : Cxt) (ir : S) (st : Stmt) : Prop := ∀ (Y : PtS G n cx) (fl : Fl) (ρ' : Rho) (σ' : St), Y.exec ir = some (fl, ρ', σ') →
  wpAny G.M Y.A (PySem.exec st Y.env) (QS G cx.vis Y.w₀ Y.s Y.env fl ρ' σ') (QXS G cx.vis Y.w₀ Y.s Y.env Y.envs Y.dr fl ρ' σ') Y.s
noncomputable def SimSs (G : Gl) (n : Nat) (cx : Cxt) (ir : List S) (st : List Stmt) : Prop := ∀ (Y : PtS G n cx) (fl : Fl) (ρ' : Rho) (σ' : St), Y.execs ir = some (fl, ρ', σ') →
  wpAny G.M Y.A (PySem.execs st Y.env) (QS G cx.vis Y.w₀ Y.s Y.env fl ρ' σ') (QXS G cx.vis Y.w₀ Y.s Y.env Y.envs Y.dr fl ρ' σ') Y.s
theorem Sim.bindS {a : E} {e : Expr} {k : V → St → RS} {R : Value → Shared → Prop} (ha : Sim G n cx a e) (Y : PtS G n cx) (hs : Same s₀ Y.s) (hev : bindE (Y.pt.ev a) Y.ρ k = some (fl, ρ', σ'))
    (hk : ∀ x xv w₁ σ₁ s₁ (_ : Post G Y.w Y.s w₁ σ₁ s₁), VR G w₁ x xv → k x σ₁ = some (fl, ρ', σ') → R xv s₁) :
    wpAny G.M Y.A (eval e Y.env) R (QXS G cx.vis Y.w₀ s₀ Y.env Y.envs Y.dr fl ρ' σ') Y.s := by
  cases h1 : Y.pt.ev a with
  | none => rw [h1] at hev; exact no hev
  | some q =>
    rw [h1] at hev
    obtain ⟨x | x, σ₁⟩ := q
    · exact wpAny_mono (ha.v Y.pt _ _ h1) (fun v s₁ ⟨w₁, p, hv⟩ => hk _ _ _ _ _ p hv hev) fun _ _ q => q.elim
    · cases hev
      exact wpAny_mono (ha.v Y.pt _ _ h1) (fun _ _ q => q.elim) fun _ _ q => ⟨Y.w, Y.le, Y.F, Y.M, .inl (q.mono ⟨hs, .refl _⟩)⟩
theorem swaps_plain {v : Expr} {t : Option Expr} {l : Nat} (h : notComp v = true) : swapsWith v t l env = pure false := by
  cases v <;> first | rfl | exact noB h
theorem not_interactive (h : env.scope.kind = .function) : interactive env = false := by unfold interactive; rw [h]; rfl
theorem PtS.done (Y : PtS G n cx) (p : Post G Y.w Y.s w' σ' s') : SPost G cx.vis Y.w₀ Y.s Y.env w' Y.ρ σ' s' := ⟨p.hs, Y.le.trans p.hw, p.S, Y.F.mono p.hw, Y.M.mono p.hw⟩
theorem sim_expr {a : E} {e : Expr} (hc : notComp e = true) (ha : Sim G n cx a e) : SimS G n cx (.expr a) (.Expr e pos) := fun Y fl ρ' σ' hev =>
  wpAny_Expr_any (ha.bindS Y (.refl _) hev fun x xv w₁ σ₁ s₁ p hx hk => by cases hk; exact ⟨rfl, w₁, Y.done p⟩) (not_interactive Y.F.kind) (swaps_plain hc)
theorem sim_ret {a : E} {e : Expr} (ha : Sim G n cx a e) : SimS G n cx (.ret a) (.Return (some e) pos) := fun Y fl ρ' σ' hev =>
  wpAny_Return_some (ha.bindS Y (.refl _) hev fun x xv w₁ σ₁ s₁ p hx hk => by cases hk; exact ⟨xv, w₁, rfl, Y.done p, hx⟩)
noncomputable def VisOK (vis : List (Str × Nat)) : Prop := ∀ x y k, vis.lookup x = some k → vis.lookup y = some k → x = y
theorem upd_inv {ρ : Rho} {k j : Nat} {v u : V} (h : upd ρ k v j = some u) : (j = k ∧ v = u) ∨ (j ≠ k ∧ ρ j = some u) := by
  by_cases q : j = k
  · exact .inl ⟨q, Option.some.inj ((if_pos q).symm.trans h)⟩
  · exact .inr ⟨q, (if_neg q).symm.trans h⟩
theorem ObjNs.nf {o : Obj} {m : Str → Option Value} (h : ObjNs o m) : ∀ vs, o.data ≠ .fields vs := fun vs e => by
  obtain ⟨es, ep, q, _⟩ := h; rw [q] at e; cases e
theorem okFr {h : Heap} {a : Addr} {o : Obj} (hn : ∀ vs, o.data ≠ .fields vs) (e : h.get? a = some o) : OwnOk h a (.fr o) := ⟨hn, o.slots, e⟩
theorem store_local {x : Str} {k : Nat} {v : V} {y : Value} {Ex : Value → Shared → Prop} (Y : PtS G n cx) (hvis : VisOK cx.vis) (hx : cx.vis.lookup x = some k) (hl : cx.scope.names.lookup x = some .local) (hv : VR G Y.w v y) :
    wpAny G.M Y.A (storeName Y.env x y) (fun _ s' => ∃ w', SPost G cx.vis Y.w₀ Y.s Y.env w' (upd Y.ρ k v) Y.σ s' ∧ Y.w.Sub w') Ex Y.s := by
  rw [← Y.hn.names] at hl
  obtain ⟨ob, _, hm, hns0, _⟩ := Y.F.ns
  obtain ⟨m, hns, hread⟩ := Y.F.locals Y.S
  refine wpAny_storeName_local (m := m) hl hns (fun h' hn' hs' => ?_) (by rw [Y.F.kind]; rfl)
  obtain ⟨o', ho', hN⟩ := ObjNs.of hn'
  have sub : Y.w.Sub (Y.w.set Y.env.locals (.fr o')) := sub_set hm fun _ q => nomatch q
  have ne : ∀ z a, Y.env.cells.lookup z = some a → a ≠ Y.env.locals := fun z a e q => by
    obtain ⟨o, v, e1, e2⟩ := Y.M.cells z a e
    rw [q, hm] at e1; cases e1
    obtain ⟨es, ep, q, _⟩ := hns0
    rw [q] at e2; cases e2
  have le : Y.w₀.Le (Y.w.set Y.env.locals (.fr o')) := ⟨fun b z e => (Wd.set_ne fun q => by rw [q, Y.M.out] at e; cases e).trans (Y.le.m b z e), Y.le.φ⟩
  refine ⟨_, ⟨.of _ _ _, le, Y.S.turnF hm (fun b z hb e => (hs'.2 b hb).trans e) (okFr hN.nf ho'), ⟨Y.F.kind, Y.F.glob, Y.F.bi, ⟨o', _, Wd.set_at, hN, fun z j u e1 e2 e3 => ?_⟩, fun z j u e1 e2 e3 => ?_⟩, Y.M.frm, Y.M.out, Y.M.cout, fun z a e => let ⟨o, v, p, q⟩ := Y.M.cells z a e; ⟨o, v, (Wd.set_ne (ne z a e)).trans p, q⟩, Y.M.inj⟩, sub⟩
  · rcases upd_inv e3 with ⟨rfl, rfl⟩ | ⟨hj, e3⟩
    · exact ⟨y, if_pos (hvis z x j e1 hx), hv.mono sub⟩
    · obtain ⟨a, b, d⟩ := hread z j u e1 e2 e3
      exact ⟨a, (if_neg fun q => hj (Option.some.inj ((q ▸ e1).symm.trans hx))).trans b, d.mono sub⟩
  · rcases upd_inv e3 with ⟨rfl, rfl⟩ | ⟨hj, e3⟩
    · rw [hvis z x j e1 hx, hl] at e2; rcases e2 with e2 | e2 <;> cases e2
    · obtain ⟨a, o, t, d1, d2, d3, d4⟩ := Y.F.cells z j u e1 e2 e3
      exact ⟨a, o, t, d1, (Wd.set_ne (ne z a d1)).trans d2, d3, d4.mono sub⟩
theorem store_cell {x : Str} {k : Nat} {v : V} {y : Value} {Ex : Value → Shared → Prop} (Y : PtS G n cx) (hvis : VisOK cx.vis) (hx : cx.vis.lookup x = some k) (hl : cx.scope.names.lookup x = some .cell) (hv : VR G Y.w v y) :
    wpAny G.M Y.A (storeName Y.env x y) (fun _ s' => ∃ w', SPost G cx.vis Y.w₀ Y.s Y.env w' (upd Y.ρ k v) Y.σ s' ∧ Y.w.Sub w') Ex Y.s := by
  obtain ⟨a, ha⟩ := Option.isSome_iff_exists.mp (Y.hn.cells x hl)
  rw [← Y.hn.names] at hl
  obtain ⟨ob, v₀, hcs, hob⟩ := Y.M.cells x a ha
  obtain ⟨_, sl, hat⟩ := Y.S.m _ _ hcs
  refine wpAny_storeName_cell Y.F.kind hl ha ⟨_, hat, hob⟩ fun h' hc' hs' => ?_
  obtain ⟨ob', ho', hd'⟩ := hc'
  have sub : Y.w.Sub (Y.w.set a (.fr ob')) := sub_set hcs fun _ q => nomatch q
  have le : Y.w₀.Le (Y.w.set a (.fr ob')) := ⟨fun b z e => (Wd.set_ne fun q => by rw [q, Y.M.cout x a ha] at e; cases e).trans (Y.le.m b z e), Y.le.φ⟩
  refine ⟨_, ⟨.of _ _ Y.s.toks, le, Y.S.turnF hcs (fun b z hb e => (hs'.2 b hb).trans e) (okFr (fun vs e => by rw [hd'] at e; cases e) ho'), ⟨Y.F.kind, Y.F.glob, Y.F.bi, ?_, fun z j u e1 e2 e3 => ?_⟩, Y.M.frm, Y.M.out, Y.M.cout, fun z b e => ?_, Y.M.inj⟩, sub⟩
  · obtain ⟨o1, m, q, r, t⟩ := Y.F.ns
    refine ⟨o1, m, (Wd.set_ne fun e => ?_).trans q, r, fun z j u e1 e2 e3 => ?_⟩
    · rw [e, hcs] at q; cases q
      obtain ⟨es, ep, q, _⟩ := r
      rw [q] at hob; cases hob
    · rcases upd_inv e3 with ⟨rfl, rfl⟩ | ⟨hj, e3⟩
      · rw [hvis z x j e1 hx, hl] at e2; cases e2
      · obtain ⟨y1, p1, q1⟩ := t z j u e1 e2 e3; exact ⟨y1, p1, q1.mono sub⟩
  · rcases upd_inv e3 with ⟨rfl, rfl⟩ | ⟨hj, e3⟩
    · rw [hvis z x j e1 hx]; exact ⟨a, ob', y, ha, Wd.set_at, hd', hv.mono sub⟩
    · obtain ⟨b, o1, y1, d1, d2, d3, d4⟩ := Y.F.cells z j u e1 e2 e3
      exact ⟨b, o1, y1, d1, (Wd.set_ne fun e => hj (Option.some.inj ((Y.M.inj z x a (e ▸ d1) ha ▸ e1).symm.trans hx))).trans d2, d3, d4.mono sub⟩
  · by_cases q : b = a
    · subst q; exact ⟨ob', _, Wd.set_at, hd'⟩
    · obtain ⟨o, v, e1, e2⟩ := Y.M.cells z b e; exact ⟨o, v, (Wd.set_ne q).trans e1, e2⟩
theorem store_name {x : Str} {k : Nat} {v : V} {y : Value} {Ex : Value → Shared → Prop} (Y : PtS G n cx) (hvis : VisOK cx.vis) (hx : cx.vis.lookup x = some k) (hl : cx.scope.names.lookup x = some .local ∨ cx.scope.names.lookup x = some .cell) (hv : VR G Y.w v y) :
    wpAny G.M Y.A (storeName Y.env x y) (fun _ s' => ∃ w', SPost G cx.vis Y.w₀ Y.s Y.env w' (upd Y.ρ k v) Y.σ s' ∧ Y.w.Sub w') Ex Y.s :=
  hl.elim (fun h => store_local Y hvis hx h hv) fun h => store_cell Y hvis hx h hv
theorem assign_at {a : E} {e : Expr} {k : Nat} {x : Str} {p : Pos} (Y : PtS G n cx) (hvis : VisOK cx.vis) (hx : cx.vis.lookup x = some k) (hl : cx.scope.names.lookup x = some .local ∨ cx.scope.names.lookup x = some .cell) (hc : swapsWith e (some (.Name x p)) pos.line Y.env = pure false) (ha : Sim G n cx a e)
    (hev : Y.exec (.assign k a) = some (fl, ρ', σ')) : wpAny G.M Y.A (PySem.exec (.Assign [.Name x p] e pos) Y.env) (QS G cx.vis Y.w₀ Y.s Y.env fl ρ' σ') (QXS G cx.vis Y.w₀ Y.s Y.env Y.envs Y.dr fl ρ' σ') Y.s :=
  wpAny_Assign_Name (ha.bindS Y (.refl _) hev fun y yv w₁ σ₁ s₁ p hy hk => by
    cases hk
    exact wpAny_mono (store_name (Y.to p) hvis hx hl hy) (fun _ s' ⟨w', q, _⟩ => ⟨rfl, w', q.mono p.hs⟩) fun _ _ q => q) hc
theorem sim_assign {a : E} {e : Expr} {k : Nat} {x : Str} {p : Pos} (hvis : VisOK cx.vis) (hx : cx.vis.lookup x = some k) (hl : cx.scope.names.lookup x = some .local ∨ cx.scope.names.lookup x = some .cell) (hc : notComp e = true) (ha : Sim G n cx a e) :
    SimS G n cx (.assign k a) (.Assign [.Name x p] e pos) := fun Y _ _ _ hev => assign_at Y hvis hx hl (swaps_plain hc) ha hev
theorem sims_nil : SimSs G n cx [] [] := fun Y fl ρ' σ' hev => by cases hev; exact wpAny_execs_nil ⟨rfl, Y.w, Y.post⟩
theorem sims_cons {a : S} {r : List S} {st : Stmt} {rest : List Stmt} (ha : SimS G n cx a st) (hr : SimSs G n cx r rest) : SimSs G n cx (a :: r) (st :: rest) := fun Y fl ρ' σ' hev => by
  have hev : bindS (Y.exec a) (fun ρ σ => Lw.execs G.P (run G.P n) Y.hd Y.dr r ρ σ) = some (fl, ρ', σ') := hev
  cases h1 : Y.exec a with
  | none => rw [h1] at hev; exact no hev
  | some q =>
    rw [h1] at hev
    obtain ⟨fl₁, ρ₁, σ₁⟩ := q
    have key := ha Y fl₁ ρ₁ σ₁ h1
    cases fl₁ with
    | next => exact wpAny_execs_cons (wpAny_mono key (fun f s₁ ⟨e, w₁, q⟩ => by subst e; exact wpAny_mono (hr (Y.next q) fl ρ' σ' hev) (fun _ _ z => z.mono q.hs) fun _ _ z => z.mono q.hs) fun _ _ q => q.elim)
    | ret v => cases hev; exact wpAny_execs_cons (wpAny_mono key (fun f s₁ q => by obtain ⟨x, w₁, rfl, q⟩ := q; exact ⟨x, w₁, rfl, q⟩) fun _ _ q => q.elim)
    | exc x => cases hev; exact wpAny_execs_cons (wpAny_mono key (fun _ _ q => q.elim) fun _ _ q => q)
theorem sim_ite {a : E} {t f : List S} {e : Expr} {ts fs : List Stmt} (ha : Sim G n cx a e) (ht : SimSs G n cx t ts) (hf : SimSs G n cx f fs) : SimS G n cx (.ite a t f) (.If e ts fs pos) := fun Y fl ρ' σ' hev => by
  have hev : bindE (Y.pt.ev a) Y.ρ (fun v σ => onO (truthV σ v) fun b => match b with | true => Lw.execs G.P (run G.P n) Y.hd Y.dr t Y.ρ σ | false => Lw.execs G.P (run G.P n) Y.hd Y.dr f Y.ρ σ) = some (fl, ρ', σ') := hev
  refine wpAny_If ?_
  cases h1 : Y.pt.ev a with
  | none => rw [h1] at hev; exact no hev
  | some q =>
    rw [h1] at hev
    obtain ⟨x | x, σ₁⟩ := q
    · obtain ⟨b, hb, hev⟩ := onO_inv hev
      refine wpAny_mono (ha.t Y.pt _ _ h1 fun _ q => by cases q; exact ⟨b, hb⟩) (fun v s₁ ⟨w₁, p, hv⟩ => ?_) fun _ _ q => q.elim
      have hv : truthV σ₁ x = some v := hv
      rw [hb] at hv; cases hv
      cases b with
      | true => exact wpAny_mono (ht (Y.to p) fl ρ' σ' hev) (fun _ _ z => z.mono p.hs) fun _ _ z => z.mono p.hs
      | false => exact wpAny_mono (hf (Y.to p) fl ρ' σ' hev) (fun _ _ z => z.mono p.hs) fun _ _ z => z.mono p.hs
    · cases hev
      exact wpAny_mono (ha.t Y.pt _ _ h1 fun _ q => by cases q) (fun _ _ q => q.elim) fun _ _ q => ⟨Y.w, Y.le, Y.F, Y.M, .inl q⟩
theorem FsR.put {fs : List (String × V)} {es : List DictEntry} {a : String} {v : V} {x : Value} {t : Tok} (r : FsR G w fs es) (hv : VR G w v x) :
    FsR G w (setF fs a v) (putL (Str.ofString a) (PyData.keyHash G.ω.params (Str.ofString a)) (.str (Str.ofString a) t) x es) := by
  induction r with
  | nil => exact .cons ⟨_, _, rfl, hv⟩ .nil
  | @cons bu d fs es hu hr ih =>
    obtain ⟨b, u⟩ := bu
    obtain ⟨t', y, rfl, hu⟩ := hu
    unfold setF putL
    by_cases q : b = a
    · subst q
      rw [if_pos rfl, if_pos (show (Value.str (Str.ofString b) t').isStr (Str.ofString b) = true by simp [Value.isStr])]
      exact .cons ⟨_, _, rfl, hv⟩ hr
    · rw [if_neg q, if_neg (show ¬ (Value.str (Str.ofString b) t').isStr (Str.ofString a) = true from fun e => absurd e (by rw [show (Value.str (Str.ofString b) t').isStr (Str.ofString a) = (Str.ofString b == Str.ofString a) from rfl, ofString_ne q]; exact Bool.false_ne_true))]
      exact .cons ⟨_, _, rfl, hu⟩ ih
theorem putL_len (name : Str) (hsh : Int) (key v : Value) (es : List DictEntry) : (putL name hsh key v es).length ≤ es.length + 1 := by
  induction es with
  | nil => exact Nat.le_refl _
  | cons e r ih =>
    unfold putL
    split
    · exact Nat.le_succ _
    · exact Nat.succ_le_succ ih
theorem osa_at {A : Around} {x C dx : Addr} {ox : Obj} {name : Str} {tk : Tok} {v : Value} {es : List DictEntry} {k : Nat} {R : Result → Shared → Prop} (X : G.K.In s.heap)
    (I : InstAt s.heap x ox C (some (dictOf es k))) (hd : ox.dict = some dx) (hp : plainOver G.K C = true) (ht : takerIn G.K C name = some none) (hh : (clsIn G.K C).any (·.hasDict) = true)
    (hl : (lookIn name (dictOf es k)).isSome = true) (D : s.heap.get? dx = some (dictOf es k)) (hz : es.length ≤ 900)
    (h : ∀ h', Heap.SameBut dx s.heap h' → h'.get? dx = some (dictOf (putL name (PyData.keyHash G.ω.params name) (.str name s.toks) v es) (putN name es k)) → R (.ok (.ret .none)) { s with heap := h', toks := s.toks + 1 }) :
    codeAny G.M A (.call (.builtin "object.__setattr__") ⟨[.ref x, .str name tk, v], []⟩) R s := by
  refine osa_open X I hp ht fun b => ?_
  obtain ⟨cd, hc, hd'⟩ := any_some hh
  have D' : (s.heap.update dx (Obj.putName name (PyData.keyHash G.ω.params name) (.str name s.toks) v)).get? dx = some (dictOf (putL name (PyData.keyHash G.ω.params name) (.str name s.toks) v es) (putN name es k)) := by
    rw [Heap.get?_update_self _ D (by rw [putName_dict]; rfl), putName_dict]
  obtain ⟨hx, hcl, hn, -⟩ := I
  obtain ⟨oc, odi, oda, osl⟩ := ox
  dsimp only at hcl hd
  subst hcl hd
  refine wpAny_bind (wpAny_pure (wpAny_bind (wpAny_bind (wpAny_loadPart hx (wpAny_bind ((looks_clsIn X hc).here ?_))))))
  rw [hd']
  refine wpAny_pure (a := some dx) (wpAny_bind (wpAny_pure (wpAny_bind ?_)))
  unfold nsSet
  refine wpAny_bind (wpAny_bind (wpAny_askSetting (wpAny_pure (wpAny_bind (wpAny_mkText (wpAny_bind (wpAny_loadPart D ?_)))))))
  have c : (!(es.toArray.any (·.key.isStr name)) && es.toArray.any (·.refKey)) = false := by
    unfold lookIn dictOf at hl
    simp only at hl
    rw [← Array.any_toList, ← Array.any_toList]
    split at hl
    · rename_i en he
      rw [List.any_eq_true.mpr ⟨en, List.mem_of_find?_eq_some he, List.find?_some he⟩]; rfl
    · split at hl
      · cases hl
      · rename_i z; rw [Bool.not_eq_true] at z; rw [z, Bool.and_false]
  unfold dictOf at D ⊢
  dsimp only
  rw [aRefKeyMayBeTheName_at, c]
  refine wpAny_updatePart D ?_
  refine wpAny_bind (wpAny_lookBehind D' (pastItsLine_dict (by rw [List.size_toArray, sizeLine_eq]; have := putL_len name (PyData.keyHash G.ω.params name) (.str name s.toks) v es; omega)) ?_)
  exact wpAny_pure (h _ (Heap.SameBut.update ..) D')
theorem setattr_sound {A : Around} {ov v : V} {ox x : Value} {a : String} {Ex : Value → Shared → Prop} (B : Base G w) (S : SR G w σ s.heap) (ho : VR G w ov ox) (hx : VR G w v x) (ha : a ∈ G.com.attrs) (h : setattrV ov a v σ = some σ') :
    wpAny G.M A (setAttr ox (Str.ofString a) x) (fun _ s' => Post G w s w σ' s') Ex s := by
  obtain ⟨i, rfl, h⟩ := withRef_inv h
  obtain ⟨o, hg, h⟩ := onO_inv h
  obtain ⟨o', ho', rfl⟩ := Option.map_eq_some_iff.mp h
  cases o with
  | inst cn fs =>
    obtain ⟨hlen, h⟩ := if_inv ho'
    cases h
    obtain ⟨p, hp, rfl⟩ := ho.refv
    obtain ⟨C, es, k, I, hC, hcn, m2, m1⟩ := inst_of B S hp hg
    refine set_plain (B.kin S) I.I I.ok.sa (osa_at (s := { s with toks := s.toks + 1 }) (B.kin S) I.I rfl I.ok.po ?_ ?_ ?_ I.I.dict ?_ fun h' hS hat => ?_)
    · unfold takerIn; rw [I.ok.at_ a ha]; rfl
    · exact I.ok.hd
    · cases q : lk fs a with
      | none => rw [(fs_look (k := k) I.fs a).2 q]; rfl
      | some u => obtain ⟨y, hy, _⟩ := (fs_look (k := k) I.fs a).1 u q; rw [hy]; rfl
    · rw [← All2.length I.fs]; exact Nat.le_trans (Nat.le_of_lt hlen) (by decide)
    · exact ⟨.of _ _ _, .refl _, S.upd hp m2 hS ⟨_, hat⟩ ⟨m2, C, _, _, (hS.2 p.1 I.ne).trans I.I.1, m1, hat, I.ne, hcn, hC, I.fs.put hx⟩⟩
  | _ => exact no ho'
theorem nextS_inv {o : Option St} (h : nextS o ρ = some (fl, ρ', σ')) : ∃ σ₁, o = some σ₁ ∧ fl = .next ∧ ρ' = ρ ∧ σ' = σ₁ := by
  cases o with
  | none => exact no h
  | some σ₁ => cases h; exact ⟨_, rfl, rfl, rfl, rfl⟩
theorem sim_setattr {oe ve : Expr} {a : String} {e1 e2 : E} {p : Pos} (hat : cx.attrs.contains a = true) (hc : notComp ve = true) (ho : Sim G n cx e1 oe) (hv : Sim G n cx e2 ve) : SimS G n cx (.setattr e1 a e2) (.Assign [.Attribute oe (Str.ofString a) p] ve pos) := fun Y fl ρ' σ' hev =>
  plainObj_wpAny_Assign_Attribute (hv.bindS Y (.refl _) hev fun y yv w₁ σ₁ s₁ p hy hk => ho.bindS (Y.to p) p.hs hk fun x xv w₂ σ₂ s₂ q hx hk => by
    obtain ⟨σ₃, h3, rfl, rfl, rfl⟩ := nextS_inv hk
    exact wpAny_mono (setattr_sound ((Y.to p).to q).pt.B q.S hx (hy.mono q.hw.sub) (Y.pt.attr hat) h3) (fun _ s' z => ⟨rfl, w₂, Y.done (p.ahead.post (q.ahead.post z))⟩) fun _ _ z => z) (swaps_plain hc)
theorem setD_sound {A : Around} {κ : Type} [DecidableEq κ] {knd : PySem.KeyKind G.prog G.ω κ} {i : Nat} {es : List (κ × V)} {p : Addr × Addr} {k : κ} {v : V} {o : O} {x y : Value} {Ex : Value → Shared → Prop} (S : SR G w σ s.heap) (hp : w.φ[i]? = some p) (r : DRel G w s.heap i p knd false es) (hk : knd.is k y = true) (hx : VR G w v x) (hl : es.length < lim)
    (hO : ∀ h', DRel G w h' i p knd false (st es k v) → ORel G w h' i p o) : wpAny G.M A (setItem (.ref p.1) y x) (fun _ s' => Post G w s w (σ.set i o) s') Ex s := by
  obtain ⟨ep, ob, kvs, r1, rm, r2, r3, r4, r5⟩ := r
  refine wpAny_setItem_pairs (knd := knd) (k := k) hk (Heap.dictOf_iff.mpr ⟨ob, r1, r2⟩) (fun h' hD' hS => ?_) (All2.length r3 ▸ lim_size0 r4)
  obtain ⟨o', ho', hdo⟩ := Heap.dictOf_iff.mp hD'
  exact ⟨.of _ _ _, .refl _, S.upd hp rm hS ⟨_, ho'⟩ (hO h' ⟨ep, o', _, ho', rm, hdo, r3.st k hx, Nat.le_trans (len_st _ _ _) hl, r5⟩)⟩
theorem mem_st {κ : Type} [DecidableEq κ] {es : List (κ × V)} {k : κ} {v : V} {P : κ → Prop} (h : ∀ kv ∈ es, P kv.1) (hk : P k) : ∀ kv ∈ st es k v, P kv.1 := by
  intro kv q
  unfold st at q
  split at q
  · obtain ⟨kv', hm, e⟩ := List.mem_map.mp q
    split at e <;> subst e <;> exact h kv' hm
  · rcases List.mem_append.mp q with q | q
    · exact h kv q
    · rw [List.mem_singleton.mp q]; exact hk
theorem setidx_sound {A : Around} {ov k v : V} {ox kx x : Value} {Ex : Value → Shared → Prop} (S : SR G w σ s.heap) (ho : VR G w ov ox) (hk : VR G w k kx) (hx : VR G w v x) (h : setidxV ov k v σ = some σ') : wpAny G.M A (setItem ox kx x) (fun _ s' => Post G w s w σ' s') Ex s := by
  obtain ⟨i, rfl, h⟩ := withRef_inv h
  obtain ⟨o, hg, h⟩ := onO_inv h
  obtain ⟨o', ho', rfl⟩ := Option.map_eq_some_iff.mp h
  obtain ⟨p, hp, rfl⟩ := ho.refv
  have rr := S.ref hp hg
  cases o with
  | di l es =>
    cases l with
    | true => exact no ho'
    | false =>
      obtain ⟨k, rfl, h2⟩ := withInt_inv ho'
      obtain ⟨hl, h3⟩ := if_inv h2
      cases h3
      obtain ⟨t, rfl⟩ := hk.intv
      exact setD_sound S hp rr (isInt_self _ _) hx hl fun _ r => r
  | ds l es =>
    cases l with
    | true => exact no ho'
    | false =>
      obtain ⟨k, rfl, h2⟩ := withStr_inv ho'
      obtain ⟨hl, h3⟩ := if_inv h2
      cases h3
      obtain ⟨t, rfl, hok⟩ := hk.strv
      exact setD_sound S hp rr.1 (strKind_is _ _ _ _) hx hl fun _ r => ⟨r, mem_st (P := fun x => sOk x = true) rr.2 hok⟩
  | _ => exact no ho'
theorem sim_setidx {oe ie ve : Expr} {e1 e2 e3 : E} {p : Pos} (hc : notComp ve = true) (ho : Sim G n cx e1 oe) (hi : Sim G n cx e2 ie) (hv : Sim G n cx e3 ve) : SimS G n cx (.setidx e1 e2 e3) (.Assign [.Subscript oe ie p] ve pos) := fun Y fl ρ' σ' hev =>
  wpAny_Assign_Subscript (hv.bindS Y (.refl _) hev fun y yv w₁ σ₁ s₁ p hy hk => ho.bindS (Y.to p) p.hs hk fun x xv w₂ σ₂ s₂ q hx hk => hi.bindS ((Y.to p).to q) (p.hs.trans q.hs) hk fun z zv w₃ σ₃ s₃ u hz hk => by
    obtain ⟨σ₃, h3, rfl, rfl, rfl⟩ := nextS_inv hk
    exact wpAny_mono (setidx_sound u.S (hx.mono u.hw.sub) hz ((hy.mono q.hw.sub).mono u.hw.sub) h3) (fun _ s' z => ⟨rfl, w₃, Y.done (p.ahead.post (q.ahead.post (u.ahead.post z)))⟩) fun _ _ z => z) (swaps_plain hc)
end
end Lw
namespace Lw
open PySem PySem.W PySem.Calls PyProof.Rows
noncomputable def Own.ex : Own → Option Obj
  | .fix o => some o | .own o => some o | .lk _ o => some o | _ => none
noncomputable def Wd.del (w : Wd) (a : Addr) : Wd := { w with m := fun x => if x = a then none else w.m x }
section
variable {G : Gl} {n : Nat} {cx : Cxt} {w w' w₀ w₁ : Wd} {s s' s₀ : Shared} {σ σ' σ₁ : St} {h h' h₁ : Heap} {a : Addr} {x : Own} {i : Nat} {p : Addr × Addr} {q : O} {ob : Obj}
theorem OwnOk.exact {o : Obj} (e : x.ex = Option.some o) (k : OwnOk h a x) : h.get? a = Option.some o := by
  cases x with
  | fix => cases e; exact k
  | own => cases e; exact k
  | lk => cases e; exact k
  | _ => exact no e
theorem ex_nofr {x : Own} {o : Obj} (e : x.ex = some o) : ∀ z, x ≠ .fr z := fun z q => by rw [q] at e; exact no e
theorem Wd.del_ne {b : Addr} (hb : b ≠ a) : (w.del a).m b = w.m b := if_neg hb
theorem Wd.del_at : (w.del a).m a = none := if_pos rfl
theorem SR.del {x : Own} (S : SR G w σ h) (hs : w.m a = some x) (hf : ∀ z, x ≠ .fix z) (hu : w.Unheld a) (k : ∀ b y, b ≠ a → h.get? b = some y → h'.get? b = some y) : SR G (w.del a) σ h' := by
  have sub : w.Sub (w.del a) := ⟨fun b z e => (Wd.del_ne fun q => by rw [q, hs] at e; exact hf z (Option.some.inj e)).trans e, List.prefix_refl _⟩
  refine ⟨fun b o e => ?_, S.n, fun i o e => ?_⟩
  · by_cases q : b = a
    · subst q; rw [Wd.del_at] at e; cases e
    · rw [Wd.del_ne q] at e; exact (S.m b o e).keep fun _ z => k _ _ q z
  · obtain ⟨p, z, r⟩ := S.obj i o e
    obtain ⟨n1, n2⟩ := r.apart hu
    exact ⟨p, z, r.keep sub (Wd.del_ne n1) (Wd.del_ne n2) fun b y hb => k b y (by rcases hb with rfl | rfl; exact n1; exact n2)⟩
theorem lkOwn_inj {l l' : Bool} {i j : Nat} {o o' : Obj} (h : lkOwn l i o = lkOwn l' j o') : i = j := by
  cases l <;> cases l' <;> cases h <;> rfl
theorem lkOwn_nofix {l : Bool} {i : Nat} {o : Obj} : ∀ z, lkOwn l i o ≠ .fix z := fun z e => by cases l <;> cases e
theorem lkOwn_nofr {l : Bool} {i : Nat} {o : Obj} : ∀ z, lkOwn l i o ≠ .fr z := fun z e => by cases l <;> cases e
theorem SR.relock {l l' : Bool} (S : SR G w σ h) (hp : w.φ[i]? = some p) (hm : w.m p.1 = some (lkOwn l i ob)) (hob : h.get? p.1 = some ob) (r : ORel G (w.set p.1 (lkOwn l' i ob)) h i p q) : SR G (w.set p.1 (lkOwn l' i ob)) (σ.set i q) h := by
  refine ⟨fun b o e => ?_, S.n, fun j o e => ?_⟩
  · by_cases z : b = p.1
    · subst z; rw [Wd.set_at] at e; cases e
      cases l'
      · exact ⟨_, hob⟩
      · exact hob
    · rw [Wd.set_ne z] at e; exact S.m b o e
  · by_cases z : j = i
    · have e' : some q = some o := (if_pos z).symm.trans e
      cases e'; subst z
      exact ⟨p, hp, r⟩
    · obtain ⟨q', y, b⟩ := S.obj j o ((if_neg z).symm.trans e)
      obtain ⟨⟨l1, o1, m1⟩, l2, o2, m2⟩ := b.held
      have n1 : q'.1 ≠ p.1 := fun e => by rw [e, hm] at m1; exact z (lkOwn_inj (Option.some.inj m1)).symm
      have n2 : q'.2 ≠ p.1 := fun e => by rw [e, hm] at m2; exact z (lkOwn_inj (Option.some.inj m2)).symm
      exact ⟨q', y, b.keep (sub_set hm lkOwn_nofix) (Wd.set_ne n1) (Wd.set_ne n2) fun _ _ _ e => e⟩
structure Coll (G : Gl) (w : Wd) (h : Heap) (i : Nat) (p : Addr × Addr) (q : O) (ob : Obj) (l : Bool) : Prop where
  at_ : h.get? p.1 = some ob
  m : w.m p.1 = some (lkOwn l i ob)
  back : ∀ w' h', w.Sub w' → h'.get? p.1 = some ob → w'.m p.1 = some (lkOwn l i ob) → ORel G w' h' i p q
  lock : ∀ w' h', w.Sub w' → h'.get? p.1 = some ob → w'.m p.1 = some (lkOwn true i ob) → ORel G w' h' i p q.locked
theorem ORel.coll (hq : q.knd ≠ 0) (r : ORel G w h i p q) : ∃ ob l, Coll G w h i p q ob l := by
  cases q with
  | list l vs =>
    obtain ⟨e, xs, n, a, b, c, d⟩ := r
    exact ⟨_, l, a, b, fun w' h' s k m => ⟨e, xs, n, k, m, c.mono s, d⟩, fun w' h' s k m => ⟨e, xs, n, k, m, c.mono s, d⟩⟩
  | di l es =>
    obtain ⟨e, ob, kvs, a, b, c, d, f⟩ := r
    exact ⟨_, l, a, b, fun w' h' s k m => ⟨e, ob, kvs, k, m, c, d.mono s, f⟩, fun w' h' s k m => ⟨e, ob, kvs, k, m, c, d.mono s, f⟩⟩
  | ds l es =>
    obtain ⟨⟨e, ob, kvs, a, b, c, d, f⟩, g⟩ := r
    exact ⟨_, l, a, b, fun w' h' s k m => ⟨⟨e, ob, kvs, k, m, c, d.mono s, f⟩, g⟩, fun w' h' s k m => ⟨⟨e, ob, kvs, k, m, c, d.mono s, f⟩, g⟩⟩
  | inst => exact absurd rfl hq
inductive Lk (G : Gl) (w : Wd) (h : Heap) (σ : St) : V → Wd → Prop
  | on {i : Nat} {p : Addr × Addr} {q : O} {ob : Obj} {l : Bool} : w.φ[i]? = some p → σ.get i = some q → Coll G w h i p q ob l → Lk G w h σ (.ref i) (w.set p.1 (lkOwn true i ob))
  | off {v : V} : lockV σ v = σ → (∀ σ', unlockV σ v σ' = σ') → Lk G w h σ v w
theorem Lk.sub {v : V} (l : Lk G w h σ v w') : w.Sub w' := by
  cases l with
  | on a b c => exact sub_set c.m lkOwn_nofix
  | off => exact (Wd.Le.refl _).sub
theorem Lk.fr {v : V} (l : Lk G w h σ v w') (hm : w.m a = some x) (hx : ∀ i ob l, x ≠ lkOwn l i ob) : w'.m a = some x := by
  cases l with
  | on _ b c => exact (Wd.set_ne fun e => by rw [e, c.m] at hm; exact hx _ _ _ (Option.some.inj hm).symm).trans hm
  | off => exact hm
theorem Lk.none {v : V} (l : Lk G w h σ v w') (hm : w.m a = none) : w'.m a = none := by
  cases l with
  | on _ b c => exact (Wd.set_ne fun e => by rw [e, c.m] at hm; cases hm).trans hm
  | off => exact hm
theorem Lk.sr {v : V} (S : SR G w σ h) (l : Lk G w h σ v w') : SR G w' (lockV σ v) h := by
  cases l with
  | @on i p q ob l a b c =>
    rw [show lockV σ (.ref i) = σ.set i q.locked by unfold lockV; simp only [b]]
    exact S.relock a c.m c.at_ (c.lock _ _ (sub_set c.m lkOwn_nofix) c.at_ Wd.set_at)
  | off a _ => rw [a]; exact S
theorem Lk.unlock {v : V} (l : Lk G w h σ v w') (hw : w'.Sub w₁) (hx : ∀ a x, w'.m a = some x → (∀ z, x ≠ .fr z) → w₁.m a = some x) (S : SR G w₁ σ₁ h₁) :
    ∃ w₂, SR G w₂ (unlockV σ v σ₁) h₁ ∧ w₁.Sub w₂ ∧ (∀ a x, w₁.m a = some x → (∀ i ob l, x ≠ lkOwn l i ob) → w₂.m a = some x) ∧ w₂.φ = w₁.φ ∧ ∀ a x, w.m a = some x → w₁.m a = w'.m a → w₂.m a = some x := by
  cases l with
  | @on i p q ob l a b c =>
    have hm := hx p.1 _ Wd.set_at lkOwn_nofr
    have sb := sub_set (x := lkOwn l i ob) hm lkOwn_nofix
    have hob : h₁.get? p.1 = some ob := S.m _ _ hm
    rw [show unlockV σ (.ref i) σ₁ = σ₁.set i q by unfold unlockV; simp only [b]]
    refine ⟨w₁.set p.1 (lkOwn l i ob), S.relock (prefix_get hw.φ a) hm hob (c.back _ _ ⟨fun z o e => sb.m z o (hw.m z o ((sub_set c.m lkOwn_nofix).m z o e)), hw.φ⟩ hob Wd.set_at), sb, fun z x e hx => (Wd.set_ne fun e' => by rw [e', hm] at e; exact hx _ _ _ (Option.some.inj e).symm).trans e, rfl, fun z x e1 e2 => ?_⟩
    by_cases e' : z = p.1
    · subst e'; rw [c.m] at e1; cases e1; exact Wd.set_at
    · rw [Wd.set_ne e'] at e2 ⊢; exact e2.trans e1
  | off _ b => rw [b]; exact ⟨w₁, S, (Wd.Le.refl _).sub, fun _ _ e _ => e, rfl, fun z x e1 e2 => e2.trans e1⟩
structure Itr (G : Gl) (A : Around) (hd : Bool) (w : Wd) (tgt : Expr) (I : Addr) (fp : List Addr) (vs : List V) (T : Nat → Heap → Prop) : Prop where
  frame : ∀ i h h', T i h → (∀ b, b = I ∨ b ∈ fp → ∀ o, h.get? b = some o → h'.get? b = some o) → T i h'
  at_ : ∀ i h, T i h → ∃ o, h.get? I = some o
  item : ∀ i v (s : Shared) (Q : Option Value → Shared → Prop) (Ex : Value → Shared → Prop), vs[i]? = some v → T i s.heap →
    (∀ x h' tk, VR G w v x → T (i + 1) h' → (∀ b o, b ≠ I → s.heap.get? b = some o → h'.get? b = some o) → Q (some x) { s with heap := h', toks := tk }) → wpAny G.M A (pyNext (.ref I)) Q Ex s
  done : hd = false → ∀ (s : Shared) (Q : Option Value → Shared → Prop) (Ex : Value → Shared → Prop), T vs.length s.heap →
    (∀ h' tk, (∀ b o, b ≠ I → s.heap.get? b = some o → h'.get? b = some o) → Q none { s with heap := h', toks := tk }) → wpAny G.M A (pyNext (.ref I)) Q Ex s
  self : ∀ i (s : Shared) (Q : Value → Shared → Prop) (Ex : Value → Shared → Prop), T i s.heap → Q (.ref I) s → wpAny G.M A (pyIter (.ref I)) Q Ex s
  go : ∀ i (s : Shared) (x : Value) (Q : Unit → Shared → Prop) (Ex : Value → Shared → Prop), ((∀ y p, tgt ≠ .Name y p) → ∃ T, x = .ref T) → T i s.heap → Q () s → wpAny G.M A (letOwnedTupleGo tgt (.ref I) x) Q Ex s
noncomputable def TgtOK (v : V) : Expr → Prop
  | .Name _ _ => True
  | .Tuple _ _ _ => ∃ vs, v = .lst vs
  | _ => False
theorem go_name {A : Around} {x : Str} {p : Pos} {I : Addr} (s : Shared) (y : Value) (Q : Unit → Shared → Prop) (Ex : Value → Shared → Prop) (h : Q () s) : wpAny G.M A (letOwnedTupleGo (.Name x p) (.ref I) y) Q Ex s := wpAny_pure (a := ()) h
theorem go_plain {A : Around} {I : Addr} {v : V} {tgt : Expr} (ht : TgtOK v tgt) (hne : ∀ vs, v ≠ .lst vs) (s : Shared) (y : Value) (Q : Unit → Shared → Prop) (Ex : Value → Shared → Prop) (h : Q () s) : wpAny G.M A (letOwnedTupleGo tgt (.ref I) y) Q Ex s := by
  cases tgt with
  | Name => exact go_name s y Q Ex h
  | Tuple => obtain ⟨vs, e⟩ := ht; exact absurd e (hne vs)
  | _ => exact ht.elim
theorem walks_itr {A : Around} {hd : Bool} {I : Addr} {fp : List Addr} {m : Nat} {Pr : Nat → Value → Prop} {T : Nat → Heap → Prop} {vs : List V} {v : V} {tgt : Expr} (W : Walks G.prog G.ω A I (I :: fp) [I] m Pr T) (hm : m = vs.length) (hP : ∀ i v x, vs[i]? = some v → Pr i x → VR G w v x)
    (hat : ∀ i h, T i h → ∃ o, h.get? I = some o) (ht : TgtOK v tgt) (hne : ∀ vs, v ≠ .lst vs) : Itr G A hd w tgt I fp vs T where
  frame i h h' st k := W.frame i h h' st fun b hb o e => k b (List.mem_cons.mp hb) o e
  at_ := hat
  item i v s Q Ex hv st hQ := W.item i s Q Ex (hm ▸ (List.getElem?_eq_some_iff.mp hv).1) st fun x h' tk hx st' k => hQ x h' tk (hP i v x hv hx) st' fun b o hb e => k b o (fun q => hb (List.mem_singleton.mp q)) e
  done _ s Q Ex st hQ := W.done s Q Ex (hm ▸ st) fun h' tk k => hQ h' tk fun b o hb e => k b o (fun q => hb (List.mem_singleton.mp q)) e
  self := W.self
  go _ s x Q Ex _ _ h := go_plain ht hne s x Q Ex h
theorem rng_size {a b k : Int} (k0 : 0 < k) : Builtin.Range.rangeSize a b k = (((b - a + k - 1) / k).toNat : Int) := by
  unfold Builtin.Range.rangeSize
  rw [if_pos k0]
  split
  · have e : b - a + k - 1 = (b - a - 1) + 1 * k := by omega
    rw [e, Int.add_mul_ediv_right _ _ (Int.ne_of_gt k0)]
    have : 0 ≤ (b - a - 1) / k := Int.ediv_nonneg (by omega) (by omega)
    omega
  · have h2 : (b - a + k - 1) / k ≤ (k - 1) / k := Int.ediv_le_ediv k0 (by omega)
    have h3 : (k - 1) / k = 0 := Int.ediv_eq_zero_of_lt (by omega) (by omega)
    omega
theorem fits_long {x : Int} (h : x.natAbs < 2 ^ 62) : Builtin.Range.rangeFitsLong x = true := by
  unfold Builtin.Range.rangeFitsLong
  simp only [Bool.and_eq_true, decide_eq_true_eq]
  omega
theorem rng_small {a b k : Int} (k0 : 0 < k) (a1 : a.natAbs < 2 ^ 60) (b1 : b.natAbs < 2 ^ 60) (k1 : k < 2 ^ 60) (hl : ((b - a + k - 1) / k).toNat ≤ lim) : Builtin.Range.small a b k = true := by
  unfold Builtin.Range.small
  unfold lim at hl
  rw [rng_size k0, if_pos k0]
  generalize ((b - a + k - 1) / k).toNat = m at hl
  rw [fits_long (x := a) (Nat.lt_trans a1 (by decide)), fits_long (x := b) (Nat.lt_trans b1 (by decide)), fits_long (x := k) (by omega), fits_long (x := (m : Int)) (by omega), fits_long (x := b + (k - 1)) (by omega), Bool.or_true]
  rfl
theorem strKind_inv {k : Str} {u : Value} (h : (PySem.strKind G.prog G.ω).is k u = true) : ∃ t, u = .str k t := by
  have h : Value.isStrOf k u = true := h
  cases u <;> simp [Value.isStrOf] at h
  subst h; exact ⟨_, rfl⟩
theorem intKind_inv {k : Int} {u : Value} (h : (intKind G.prog G.ω).is k u = true) : ∃ t, u = .int k t := by
  have h : Value.isInt k u = true := h
  cases u <;> simp [Value.isInt] at h
  subst h; exact ⟨_, rfl⟩
theorem itersOf_inv {hd : Bool} {v : V} {items : List V} (h : itersOf hd σ v = some items) : (v = .lst items) ∨ (hd = false ∧ itemsOf σ v = some items ∧ ∀ vs, v ≠ .lst vs) := by
  unfold itersOf at h
  split at h
  · obtain ⟨vs, rfl, h⟩ := withLst_inv h; cases h; exact .inl rfl
  · rename_i q
    cases v with
    | lst vs => cases h; exact .inl rfl
    | _ => exact .inr ⟨Bool.eq_false_iff.mpr q, h, fun _ e => nomatch e⟩
noncomputable def MkIter (G : Gl) (A : Around) (hd : Bool) (w : Wd) (σ : St) (s : Shared) (tgt : Expr) (v : V) (items : List V) (Q : Value → Shared → Prop) : Prop :=
  ∀ ob fp T w', Lk G w s.heap σ v w' → Itr G A hd w tgt s.heap.objs.size fp items T → T 0 (s.heap.push ob) → (∀ b ∈ fp, ∃ o q, w'.m b = some o ∧ o.ex = some q) → ob.isFreed = false → Q (.ref s.heap.objs.size) { s with heap := s.heap.push ob }
theorem iter_list {A : Around} {hd : Bool} {v : V} {items : List V} {tgt : Expr} {Ex : Value → Shared → Prop} {Q : Value → Shared → Prop} {l : Addr} {xs : Array Value} (hA : hd = false → A.handled = none) (ht : TgtOK v tgt) (hl : s.heap.IsList l xs) (hvs : VRs G w items xs.toList)
    (lk : Lk G w s.heap σ v w') (hkept : ∃ o q, w'.m l = some o ∧ o.ex = some q) (h : MkIter G A hd w σ s tgt v items Q) : wpAny G.M A (pyIter (.ref l)) Q Ex s := by
  have hlt : l < s.heap.objs.size := let ⟨_, e, _⟩ := hl; Heap.lt_size e
  refine wpAny_pyIter_list hl (h _ [l] (fun i h => h.IsListIter s.heap.objs.size l i ∧ h.IsList l xs) w' lk ⟨fun i h h' st k => ⟨st.1.at fun o e => k _ (.inl rfl) o e, st.2.at fun o e => k l (.inr (List.mem_singleton.mpr rfl)) o e⟩, fun i h st => let ⟨o, e, _⟩ := st.1; ⟨o, e⟩, fun i u s' Q' Ex' hu st hQ => ?_, fun hd0 s' Q' Ex' st hQ => wpAny_pyNext_list_end (hA hd0) st.1 st.2 (Array.getElem?_eq_none (Nat.le_of_eq hvs.size.symm)) fun h' he' => hQ h' s'.toks fun b o hb e => he' b o hb e, fun _ _ _ _ st hQ => wpAny_pyIter_listiter st.1 hQ, fun i s' x' Q' Ex' hx' st hQ => ?_⟩ ⟨⟨_, Heap.get?_push_size _ rfl, rfl, rfl⟩, IsList_keep (push_keeps _ _) hl⟩ (fun b hb => List.mem_singleton.mp hb ▸ hkept) rfl)
  · obtain ⟨y, hy, hvy⟩ := VRs.getArr hvs hu
    exact wpAny_pyNext_list_item st.1 st.2 hy fun h' hit' hs' => hQ y h' s'.toks hvy ⟨hit', st.2.extBut hs'.extBut (Nat.ne_of_lt hlt)⟩ fun b o hb e => hs'.extBut b o hb e
  · cases tgt with
    | Name y p => exact go_name s' x' Q' Ex' hQ
    | Tuple elts k p => obtain ⟨T, rfl⟩ := hx' fun _ _ e => nomatch e; exact wpAny_letOwnedTupleGo_listiter st.1 hQ
    | _ => exact ht.elim
theorem iter_dict {A : Around} {κ : Type} [DecidableEq κ] {knd : PySem.KeyKind G.prog G.ω κ} {l : Bool} {es : List (κ × V)} {tgt : Expr} {Ex : Value → Shared → Prop} {Q : Value → Shared → Prop} {f : κ × V → V} (hA : A.handled = none) (ht : TgtOK (.ref i) tgt) (r : DRel G w s.heap i p knd l es)
    (hf : ∀ kv x, kv ∈ es → knd.is kv.1 x = true → VR G w (f kv) x) (lk : Lk G w s.heap σ (.ref i) w') (hkept : ∃ o q, w'.m p.1 = some o ∧ o.ex = some q) (h : MkIter G A false w σ s tgt (.ref i) (es.map f) Q) : wpAny G.M A (pyIter (.ref p.1)) Q Ex s := by
  obtain ⟨e2, ob, kvs, r1, _, r2, r3, r4, r5⟩ := r
  obtain ⟨ep, hat⟩ := (Heap.dictOf_iff.mpr ⟨ob, r1, r2⟩ : s.heap.DictOf knd p.1 kvs).dictAt
  refine wpAny_pyIter_dict (ne_beq r5) hat (h _ [p.1] _ _ lk (walks_itr (Walks.dictKeys (knd := knd) hA s.heap.objs.size p.1 (Nat.ne_of_lt hat.lt_size) kvs ep) (by rw [List.length_map]; exact (All2.length r3).symm) (fun j u y hu hy => ?_) (fun i h st => let ⟨o, e, _⟩ := st.1; ⟨o, e⟩) ht fun _ e => nomatch e) ⟨⟨_, Heap.get?_push_size _ rfl, rfl, rfl⟩, hat.push _⟩ (fun b hb => List.mem_singleton.mp hb ▸ hkept) rfl)
  obtain ⟨k, z, h1, h2⟩ := hy
  rw [List.getElem?_map, Option.map_eq_some_iff] at hu
  obtain ⟨kv, h3, rfl⟩ := hu
  obtain ⟨kz, h4, h5, _⟩ := All2.get r3 h3
  rw [h1] at h4; cases h4
  exact hf kv y (List.mem_of_getElem? h3) (h5 ▸ h2)
theorem Coll.kept {l : Bool} (c : Coll G w h i p q ob l) : ∃ o z, (w.set p.1 (lkOwn true i ob)).m p.1 = some o ∧ o.ex = some z := ⟨_, ob, Wd.set_at, rfl⟩
theorem iter_sound {A : Around} {hd : Bool} {v : V} {x : Value} {items : List V} {tgt : Expr} {Ex : Value → Shared → Prop} {Q : Value → Shared → Prop} (S : SR G w σ s.heap) (hA : hd = false → A.handled = none) (hv : VR G w v x) (hi : itersOf hd σ v = some items) (ht : TgtOK v tgt)
    (h : MkIter G A hd w σ s tgt v items Q) : wpAny G.M A (pyIter x) Q Ex s := by
  rcases itersOf_inv hi with rfl | ⟨rfl, hi, hne⟩
  · cases hv with
    | lst e1 e2 e3 e4 e5 => exact iter_list hA ht ⟨_, S.at e1, e2, _, e3⟩ e4 (.off rfl fun _ => rfl) ⟨_, _, e1, rfl⟩ h
  · have hA := hA rfl
    cases v with
    | lst vs => exact absurd rfl (hne vs)
    | tup vs =>
      cases hi
      cases hv with
      | tup e1 e2 e3 e4 e5 =>
        have hT : s.heap.IsTuple _ _ := ⟨_, S.at e1, e2, _, e3⟩
        refine wpAny_pyIter_tuple hT (h _ [_] _ w (.off rfl fun _ => rfl) (walks_itr (Walks.tuple hA s.heap.objs.size _ (Nat.ne_of_lt (Heap.lt_size (S.at e1))) _) (VRs.size e4).symm (fun i u y hu hy => ?_) (fun i h st => let ⟨o, e, _⟩ := st.1; ⟨o, e⟩) ht hne) ⟨⟨_, Heap.get?_push_size _ rfl, rfl, rfl⟩, let ⟨o, e, r⟩ := hT; ⟨o, Heap.get?_push_of_some _ e, r⟩⟩ (fun b hb => List.mem_singleton.mp hb ▸ ⟨_, _, e1, rfl⟩) rfl)
        obtain ⟨z, hz, hvz⟩ := VRs.getArr e4 hu
        rw [hz] at hy; cases hy; exact hvz
    | rng a b k =>
      obtain ⟨hc, hi⟩ := if_inv hi
      cases hi
      cases hv with
      | rng e1 e2 =>
        obtain ⟨t, u, y, rfl⟩ := e2
        obtain ⟨k0, a1, b1, k1, hlim⟩ := hc
        refine wpAny_pyIter_range (S.at e1) (rng_small k0 a1 b1 k1 hlim) (h _ [] _ w (.off rfl fun _ => rfl) (walks_itr (Walks.range (prog := G.prog) (w := G.ω) (A := A) hA s.heap.objs.size a k ((b - a + k - 1) / k).toNat) (by unfold rngList; rw [List.length_map, List.length_range]) (fun i u y hu hy => ?_) (fun i h st => ⟨_, st⟩) ht hne) ?_ (fun b hb => nomatch hb) rfl)
        · obtain ⟨t', rfl⟩ := hy
          unfold rngList at hu
          rw [List.getElem?_map, Option.map_eq_some_iff] at hu
          obtain ⟨j, hj, rfl⟩ := hu
          rw [List.getElem?_range (by have := (List.getElem?_eq_some_iff.mp hj).1; rw [List.length_range] at this; exact this)] at hj
          cases hj
          rw [show a + k * (i : Int) = a + i * k by rw [Int.mul_comm]]
          exact .int _ _
        · show IsRangeIter _ _ _ _ _
          rw [rng_size k0]
          simpa using Heap.get?_push_size _ rfl
    | ref j =>
      obtain ⟨p, hp, rfl⟩ := hv.refv
      obtain ⟨o, hg, hi⟩ := onO_inv hi
      have rr := S.ref hp hg
      cases o with
      | list l vs =>
        cases hi
        obtain ⟨ob, l', c⟩ := rr.coll (fun e => by cases e)
        obtain ⟨_, xs, k, r1, _, r2, _⟩ := rr
        exact iter_list (fun _ => hA) ht ⟨_, r1, rfl, _, rfl⟩ r2 (.on hp hg c) c.kept h
      | di l es =>
        cases hi
        obtain ⟨ob, l', c⟩ := rr.coll (fun e => by cases e)
        exact iter_dict hA ht rr (fun kv x _ q => by obtain ⟨t, rfl⟩ := intKind_inv q; exact .int _ _) (.on hp hg c) c.kept h
      | ds l es =>
        cases hi
        obtain ⟨ob, l', c⟩ := rr.coll (fun e => by cases e)
        exact iter_dict hA ht rr.1 (fun kv x hm q => by obtain ⟨t, rfl⟩ := strKind_inv q; exact .str _ _ (rr.2 kv hm)) (.on hp hg c) c.kept h
      | inst => exact no hi
    | _ => exact no hi
end
end Lw
namespace Lw
open PySem PySem.W PySem.Calls PyProof.Rows
theorem fix_nofr {o : Obj} : ∀ z, Own.fix o ≠ .fr z := fun _ q => nomatch q
theorem fix_noown {o : Obj} : ∀ z, Own.fix o ≠ .own z := fun _ q => nomatch q
theorem fr_noown {o : Obj} : ∀ z, Own.fr o ≠ .own z := fun _ q => nomatch q
theorem own_nofix {o : Obj} : ∀ z, Own.own o ≠ .fix z := fun _ q => nomatch q
theorem fr_nolk {o : Obj} : ∀ i ob l, Own.fr o ≠ lkOwn l i ob := fun i ob l e => by cases l <;> cases e
noncomputable def owns (env : Env) (a : Addr) : Prop := a = env.locals ∨ ∃ x, env.cells.lookup x = some a
noncomputable def Wd.hide (w : Wd) (env : Env) : Wd := { w with m := fun a => open Classical in if owns env a then none else w.m a }
section
variable {G : Gl} {n : Nat} {cx : Cxt} {w w' w₀ w₁ : Wd} {s s' s₀ : Shared} {σ σ' σ₁ : St} {ρ ρ' : Rho} {fl : Fl} {env : Env} {I : Addr} {p : Obj} {pos : Pos}
structure OwnAt (w₀ w : Wd) (env : Env) : Prop where
  out : ∀ a, owns env a → w₀.m a = none
  fr : ∀ a, owns env a → ∃ o, w.m a = some (.fr o)
theorem PtS.own (Y : PtS G n cx) : OwnAt Y.w₀ Y.w Y.env :=
  ⟨fun a q => q.elim (fun e => e ▸ Y.M.out) fun ⟨x, e⟩ => Y.M.cout x a e, fun a q => q.elim (fun e => let ⟨o, _, h, _⟩ := Y.F.ns; ⟨o, e ▸ h⟩) fun ⟨x, e⟩ => let ⟨o, _, h, _⟩ := Y.M.cells x a e; ⟨o, h⟩⟩
theorem Wd.hide_own {a : Addr} (q : owns env a) : (w.hide env).m a = none := if_pos q
theorem Wd.hide_ne {a : Addr} (q : ¬ owns env a) : (w.hide env).m a = w.m a := if_neg q
theorem Wd.hide_of {a : Addr} {x : Own} (O : OwnAt w₀ w env) (e : w.m a = some x) (hx : ∀ z, x ≠ .fr z) : (w.hide env).m a = some x :=
  (Wd.hide_ne fun q => by obtain ⟨o, h⟩ := O.fr a q; rw [h] at e; cases e; exact hx o rfl).trans e
theorem Wd.hide_le : (w.hide env).Le w := ⟨fun a x e => by
  by_cases q : owns env a
  · rw [Wd.hide_own q] at e; cases e
  · rw [Wd.hide_ne q] at e; exact e, List.prefix_refl _⟩
structure Lp (Y : PtS G n cx) (itv : V) (w' : Wd) (I : Addr) : Prop where
  l : Lk G Y.w Y.s.heap Y.σ itv w'
  hI : Y.s.heap.get? I = none
noncomputable def Lp.W {Y : PtS G n cx} {itv : V} {w' : Wd} {I : Addr} (_ : Lp Y itv w' I) (p : Obj) : Wd := (w'.hide Y.env).set I (.own p)
section
variable {Y : PtS G n cx} {itv : V} (P : Lp Y itv w' I)
include P
theorem Lp.non : w'.m I = none := P.l.none (Y.S.fresh P.hI)
theorem Lp.own : OwnAt Y.w₀ w' Y.env := ⟨Y.own.out, fun a q => let ⟨o, e⟩ := Y.own.fr a q; ⟨o, P.l.fr e fr_nolk⟩⟩
theorem Lp.hnone : (w'.hide Y.env).m I = none := (Wd.hide_ne fun q => by obtain ⟨o, h⟩ := P.own.fr I q; rw [P.non] at h; cases h).trans P.non
theorem Lp.le (p : Obj) : (w'.hide Y.env).Le (P.W p) := Wd.le_set P.hnone
theorem Lp.base (p : Obj) : Base G (P.W p) := Y.B.mono ⟨fun a o e => (P.le p).m _ _ (Wd.hide_of P.own (P.l.sub.m _ _ (Y.le.sub.m _ _ e)) fix_nofr), Y.le.φ.trans P.l.sub.φ⟩
theorem Lp.aok (p : Obj) : AOK Y.A n Y.hd (P.W p) Y.envs := Y.hA.mono fun a o e => (P.le p).m _ _ ((Wd.hide_ne fun q => by rw [Y.own.out a q] at e; cases e).trans (P.l.fr (Y.le.m _ _ e) fr_nolk))
theorem Lp.out (p : Obj) {a : Addr} (q : owns Y.env a) : (P.W p).m a = Option.none := (Wd.set_ne fun e => by obtain ⟨o, h⟩ := P.own.fr a q; rw [e, P.non] at h; cases h).trans (Wd.hide_own q)
theorem Lp.at_ (p : Obj) : (P.W p).m I = some (.own p) := Wd.set_at
theorem Lp.stand {p : Obj} {w₁ : Wd} {a : Addr} {x : Own} (le : (P.W p).Le w₁) (e : w'.m a = some x) (hx : ∀ z, x ≠ .fr z) : w₁.m a = some x := le.m _ _ ((P.le p).m _ _ (Wd.hide_of P.own e hx))
theorem Lp.sub {p : Obj} {w₁ : Wd} (le : (P.W p).Le w₁) : w'.Sub w₁ := ⟨fun _ _ e => P.stand le e fix_nofr, le.φ⟩
theorem Lp.in_ {p : Obj} {w₁ : Wd} (le : (w'.hide Y.env).Le w₁) (e : w₁.m I = some (.own p)) : (P.W p).Le w₁ := ⟨fun a x e' => by
  by_cases q : a = I
  · subst q; rw [P.at_] at e'; cases e'; exact e
  · exact le.m _ _ ((Wd.set_ne q).symm.trans e'), le.φ⟩
theorem Lp.stays {A : Around} {hd : Bool} {tgt : Expr} {fp : List Addr} {items : List V} {T : Nat → Heap → Prop} {i : Nat} {p : Obj} {w₁ w₂ : Wd} {σ₁ σ₂ : St} {h₁ h₂ : Heap} (it : Itr G A hd Y.w tgt I fp items T) (hkept : ∀ b ∈ fp, ∃ o q, w'.m b = some o ∧ o.ex = some q)
    (l1 : (P.W p).Le w₁) (l2 : (P.W p).Le w₂) (S1 : SR G w₁ σ₁ h₁) (S2 : SR G w₂ σ₂ h₂) (st : T i h₁) : T i h₂ := by
  refine it.frame i h₁ h₂ st fun b hb y e => ?_
  rcases hb with rfl | hb
  · rw [S1.m _ _ (l1.m _ _ (P.at_ p))] at e; cases e
    exact S2.m _ _ (l2.m _ _ (P.at_ p))
  · obtain ⟨o, q, e1, e2⟩ := hkept b hb
    rw [(S1.m _ _ (P.stand l1 e1 (ex_nofr e2))).exact e2] at e; cases e
    exact (S2.m _ _ (P.stand l2 e1 (ex_nofr e2))).exact e2
end
theorem FR.swap {vis : List (Str × Nat)} (F : FR G w env vis ρ) (sb : w.Sub w') (fr : ∀ a o, owns env a → w.m a = some (.fr o) → w'.m a = some (.fr o)) : FR G w' env vis ρ :=
  ⟨F.kind, F.glob, F.bi, let ⟨o, m, a, b, d⟩ := F.ns; ⟨o, m, fr _ _ (.inl rfl) a, b, fun x k v e1 e2 e3 => let ⟨y, p, q⟩ := d x k v e1 e2 e3; ⟨y, p, q.mono sb⟩⟩, fun x k v e1 e2 e3 => let ⟨a, o, y, p, q, r, z⟩ := F.cells x k v e1 e2 e3; ⟨a, o, y, p, fr _ _ (.inr ⟨x, p⟩) q, r, z.mono sb⟩⟩
theorem Frm.cells' {w₂ : Wd} (M : Frm w₂ w env) (fr : ∀ a o, owns env a → w.m a = some (.fr o) → w'.m a = some (.fr o)) : ∀ x a, env.cells.lookup x = some a → ∃ o v, w'.m a = some (.fr o) ∧ o.data = .cell v := fun x a e => let ⟨o, v, p, q⟩ := M.cells x a e; ⟨o, v, fr _ _ (.inr ⟨x, e⟩) p, q⟩
theorem Lk.agree {h : Heap} {v : V} {a : Addr} {x : Own} (l : Lk G w h σ v w') (e : w.m a = some x) : ∃ y, w'.m a = some y := by
  cases l with
  | @on i p _ _ _ _ _ c =>
    by_cases z : a = p.1
    · subst z; exact ⟨_, Wd.set_at⟩
    · exact ⟨x, (Wd.set_ne z).trans e⟩
  | off => exact ⟨x, e⟩
theorem Lp.leave {Y : PtS G n cx} {itv : V} (P : Lp Y itv w' I) {w₁ : Wd} {p : Obj} {h₁ : Heap} {ρ₁ : Rho} {s₁ : Shared} (le : (P.W p).Le w₁) (S : SR G w₁ σ₁ h₁) (F : FR G w₁ Y.env cx.vis ρ₁) (M : Frm (P.W p) w₁ Y.env) (hk : ∀ b x, b ≠ I → h₁.get? b = some x → s₁.heap.get? b = some x) (hs : Same s₀ s₁) :
    ∃ w₂, SPost G cx.vis Y.w₀ s₀ Y.env w₂ ρ₁ (unlockV Y.σ itv σ₁) s₁ ∧ w₁.Sub w₂ := by
  have hmI := le.m _ _ (P.at_ p)
  have d1 : ∀ a x, w₁.m a = some x → (∀ o, x ≠ .own o) → (w₁.del I).m a = some x := fun a x e hx => (Wd.del_ne fun q => by rw [q, hmI] at e; cases e; exact hx _ rfl).trans e
  have d2 : ∀ a x, w'.m a = some x → (∀ z, x ≠ .fr z) → (w₁.del I).m a = some x := fun a x e hx => (Wd.del_ne fun q => by rw [q, P.non] at e; cases e).trans (P.stand le e hx)
  obtain ⟨w₂, S3, sb, frs, hφ, hag⟩ := P.l.unlock ⟨fun a o e => d2 a _ e fix_nofr, le.φ⟩ d2 (S.del hmI own_nofix (Wd.unheld_own hmI) hk)
  have sb2 : w₁.Sub w₂ := ⟨fun a o e => sb.m _ _ (d1 a _ e fix_noown), sb.φ⟩
  have fr2 : ∀ a o, w₁.m a = some (.fr o) → w₂.m a = some (.fr o) := fun a o e => frs a _ (d1 a _ e fr_noown) fr_nolk
  refine ⟨w₂, ⟨hs, ⟨fun a x e => hag a x (Y.le.m _ _ e) ?_, hφ ▸ (Y.le.φ.trans P.l.sub.φ).trans le.φ⟩, S3, F.swap sb2 (fun a o _ => fr2 a o), Y.M.frm, Y.M.out, Y.M.cout, M.cells' (fun a o _ => fr2 a o), Y.M.inj⟩, sb2⟩
  obtain ⟨y, hy⟩ := P.l.agree (Y.le.m _ _ e)
  rw [hy]
  exact (Wd.del_ne fun q => by rw [q, P.non] at hy; cases hy).trans (le.m _ _ ((P.le p).m _ _ ((Wd.hide_ne fun q => by rw [Y.own.out a q] at e; cases e).trans hy)))
structure LInv {Y : PtS G n cx} {itv : V} (P : Lp Y itv w' I) (s₀ : Shared) (T : Nat → Heap → Prop) (f : V → Rho → St → RS) (items : List V) (res : RS) (i : Nat) (s₁ : Shared) (w₁ : Wd) (p : Obj) (ρ₁ : Rho) (σ₁ : St) : Prop where
  hi : i ≤ items.length
  hs : Same s₀ s₁
  le : (P.W p).Le w₁
  S : SR G w₁ σ₁ s₁.heap
  F : FR G w₁ Y.env cx.vis ρ₁
  M : Frm (P.W p) w₁ Y.env
  st : T i s₁.heap
  ev : loop f (items.drop i) ρ₁ σ₁ = res
theorem bindS_none {k : Rho → St → RS} {r : Fl × Rho × St} (h : bindS none k = some r) : False := no h
noncomputable def LInv.pt {Y : PtS G n cx} {itv : V} {P : Lp Y itv w' I} {T : Nat → Heap → Prop} {f : V → Rho → St → RS} {items : List V} {res : RS} {i : Nat} {s₁ : Shared} {w₁ : Wd} {p p2 : Obj} {ρ₁ : Rho} {σ₁ : St} {h₂ : Heap} {tk : Nat} (L : LInv P s₀ T f items res i s₁ w₁ p ρ₁ σ₁)
    (hp : h₂.get? I = some p2) (k : ∀ b o, b ≠ I → s₁.heap.get? b = some o → h₂.get? b = some o) : PtS G n cx :=
  have hmI := L.le.m _ _ (P.at_ p)
  have fr : ∀ a o, w₁.m a = some (.fr o) → (w₁.set I (.own p2)).m a = some (.fr o) := fun a o e => (Wd.set_ne fun q => by rw [q, hmI] at e; cases e).trans e
  ⟨Y.hd, Y.dr, P.W p2, w₁.set I (.own p2), ρ₁, σ₁, Y.env, Y.envs, Y.A, { s₁ with heap := h₂, toks := tk }, P.base p2, P.in_ ⟨fun a x e => (Wd.set_ne fun q => by rw [q, P.hnone] at e; cases e).trans (L.le.m _ _ ((P.le p).m _ _ e)), L.le.φ⟩ Wd.set_at, L.S.turn hmI k hp,
    L.F.swap (sub_set hmI own_nofix) (fun a o _ => fr a o), ⟨Y.M.frm, P.out p2 (.inl rfl), fun x a e => P.out p2 (.inr ⟨x, e⟩), L.M.cells' (fun a o _ => fr a o), Y.M.inj⟩, Y.hn, P.aok p2, Y.fr⟩
theorem loopEnd_next {hd : Bool} {v : V} {ρ₁ : Rho} (h : loopEnd hd σ v (some (.next, ρ₁, σ₁)) = some (fl, ρ', σ')) : hd = false ∧ fl = .next ∧ ρ' = ρ₁ ∧ σ' = unlockV σ v σ₁ := by
  cases hd with
  | false => cases h; exact ⟨rfl, rfl, rfl, rfl⟩
  | true => exact no h
theorem loop_sound {tgt : Expr} {bs : List Stmt} {b : List S} {items : List V} {fp : List Addr} {T : Nat → Heap → Prop} {f : V → Rho → St → RS} {asg : V → Rho → Option Rho} {itv : V} {ob : Obj} {R : Result → Shared → Prop} (Y : PtS G n cx) (hs₀ : Same s₀ Y.s)
    (hf : ∀ v ρ σ r, f v ρ σ = some r → ∃ ρ₁, asg v ρ = some ρ₁ ∧ execs G.P (run G.P n) Y.hd Y.dr b ρ₁ σ = some r)
    (htgt : ∀ (Z : PtS G n cx) (v : V) (x : Value) (ρ₁ : Rho) (Ex : Value → Shared → Prop), Z.hd = Y.hd → asg v Z.ρ = some ρ₁ → VR G Z.w v x → wpAny G.M Z.A (assign tgt Z.env x) (fun _ s' => ∃ w', SPost G cx.vis Z.w₀ Z.s Z.env w' ρ₁ Z.σ s') Ex Z.s)
    (hgo : ∀ (w : Wd) (v : V) (x : Value) (ρ ρ₁ : Rho), asg v ρ = some ρ₁ → VR G w v x → (∀ y p, tgt ≠ .Name y p) → ∃ T, x = .ref T)
    (hb : SimSs G n cx b bs) (P : Lp Y itv w' Y.s.heap.objs.size) (it : Itr G Y.A Y.hd Y.w tgt Y.s.heap.objs.size fp items T) (hst : T 0 (Y.s.heap.push ob)) (hkept : ∀ b ∈ fp, ∃ o q, w'.m b = some o ∧ o.ex = some q) (hfr : ob.isFreed = false)
    (hev : loopEnd Y.hd Y.σ itv (loop f items Y.ρ (lockV Y.σ itv)) = some (fl, ρ', σ'))
    (hR : ∀ fw s', QS G cx.vis Y.w₀ s₀ Y.env fl ρ' σ' fw s' → R (.ok fw) s') :
    codeAny G.M Y.A (.forLoop tgt (.ref Y.s.heap.objs.size) bs [] Y.env) R { Y.s with heap := Y.s.heap.push ob } := by
  have fr : ∀ a o, Y.w.m a = some (.fr o) → (w'.set Y.s.heap.objs.size (.own ob)).m a = some (.fr o) := fun a o e => (Wd.le_set P.non).m _ _ (P.l.fr e fr_nolk)
  have start : LInv P s₀ T f items (loop f items Y.ρ (lockV Y.σ itv)) 0 { Y.s with heap := Y.s.heap.push ob } (w'.set Y.s.heap.objs.size (.own ob)) ob Y.ρ (lockV Y.σ itv) :=
    ⟨Nat.zero_le _, hs₀.trans (.of _ _ Y.s.toks), P.in_ (Wd.hide_le.trans (Wd.le_set P.non)) Wd.set_at, (P.l.sr Y.S).put (get_size _) (push_keeps _ _) (Heap.get?_push_size _ hfr), Y.F.swap ⟨fun a o e => (Wd.le_set P.non).m _ _ (P.l.sub.m _ _ e), P.l.sub.φ⟩ (fun a o _ => fr a o), ⟨Y.M.frm, P.out ob (.inl rfl), fun x a e => P.out ob (.inr ⟨x, e⟩), Y.M.cells' (fun a o _ => fr a o), Y.M.inj⟩, hst, rfl⟩
  refine codeAny_forLoop_any (fun m s₁ => ∃ i w₁ p ρ₁ σ₁, m = items.length + 1 - i ∧ LInv P s₀ T f items (loop f items Y.ρ (lockV Y.σ itv)) i s₁ w₁ p ρ₁ σ₁) ?_ (items.length + 1) ⟨0, _, ob, _, _, rfl, start⟩
  generalize loop f items Y.ρ (lockV Y.σ itv) = res at hev
  rintro m s₁ ⟨i, w₁, p, ρ₁, σ₁, rfl, L⟩
  cases hv : items[i]? with
  | none =>
    have hie : i = items.length := Nat.le_antisymm L.hi (List.getElem?_eq_none_iff.mp hv)
    subst hie
    have ev := L.ev
    rw [List.drop_length] at ev
    subst ev
    obtain ⟨hd0, rfl, rfl, rfl⟩ := loopEnd_next hev
    exact it.done hd0 s₁ _ _ L.st fun h₂ tk k => wpAny_execs_nil (hR _ _ ⟨rfl, let ⟨w₂, q, _⟩ := P.leave (s₁ := { s₁ with heap := h₂, toks := tk }) L.le L.S L.F L.M k (L.hs.trans (.of _ _ _)); ⟨w₂, q⟩⟩)
  | some v =>
    have hlt : i < items.length := (List.getElem?_eq_some_iff.mp hv).1
    have ev := L.ev
    rw [List.drop_eq_getElem_cons hlt, (List.getElem?_eq_some_iff.mp hv).2] at ev
    have ev : bindS (f v ρ₁ σ₁) (fun ρ σ => loop f (items.drop (i + 1)) ρ σ) = res := ev
    refine it.item i v s₁ _ _ hv L.st fun x h₂ tk hx st₂ k => ?_
    obtain ⟨p2, hp2⟩ := it.at_ _ _ st₂
    cases hfv : f v ρ₁ σ₁ with
    | none => rw [hfv] at ev; subst ev; exact no hev
    | some r =>
      rw [hfv] at ev
      obtain ⟨fl2, ρ2, σ2⟩ := r
      obtain ⟨ρa, ha, hex⟩ := hf v ρ₁ σ₁ _ hfv
      have hx1 : VR G (L.pt (tk := tk) hp2 k).w v x := ((hx.mono P.l.sub).mono (P.sub L.le)).mono (sub_set (L.le.m _ _ (P.at_ p)) own_nofix)
      refine it.go (i + 1) { s₁ with heap := h₂, toks := tk } x _ _ (hgo _ v x ρ₁ ρa ha hx1) st₂ (wpAny_mono (htgt (L.pt (tk := tk) hp2 k) v x ρa _ rfl ha hx1) (fun _ s₃ ⟨w₃, q₃⟩ => ?_) fun _ _ q => q)
      have st₃ := P.stays it hkept (L.pt (tk := tk) hp2 k).le q₃.le (L.pt (tk := tk) hp2 k).S q₃.S st₂
      have hs₃ : Same s₀ s₃ := (L.hs.trans (.of _ _ _)).trans q₃.hs
      refine wpAny_mono (hb ((L.pt (tk := tk) hp2 k).next q₃) fl2 ρ2 σ2 hex) (fun fw s₄ q => ?_) fun e s₄ q => ?_
      · cases fl2 with
        | next =>
          obtain ⟨rfl, w₄, q⟩ := q
          exact ⟨items.length + 1 - (i + 1), Nat.sub_lt_sub_left (Nat.lt_succ_of_lt hlt) (Nat.lt_succ_self i), i + 1, w₄, p2, ρ2, σ2, rfl, hlt, hs₃.trans q.hs, q.le, q.S, q.F, q.M, P.stays it hkept q₃.le q.le q₃.S q.S st₃, ev⟩
        | ret u =>
          obtain ⟨y, w₄, rfl, q, hv4⟩ := q
          subst ev
          cases hev
          obtain ⟨w₅, q₅, sb⟩ := P.leave (s₁ := s₄) q.le q.S q.F q.M (fun _ _ _ e => e) (hs₃.trans q.hs)
          exact hR _ _ ⟨y, w₅, rfl, q₅, hv4.mono sb⟩
        | exc => exact q.elim
      · cases fl2 with
        | exc y => subst ev; exact no hev
        | next => exact q.elim
        | ret => exact q.elim
theorem folded_plain {e : Expr} (h : notSetE e = true) (x : Value) : foldedSetIterable e env x = pure x := by
  cases e <;> first | rfl | exact noB h
theorem sim_for1 {k : Nat} {it : E} {b : List S} {x : Str} {p : Pos} {ie : Expr} {bs : List Stmt} (hvis : VisOK cx.vis) (hx : cx.vis.lookup x = some k) (hl : cx.scope.names.lookup x = some .local ∨ cx.scope.names.lookup x = some .cell) (hset : notSetE ie = true)
    (hi : Sim G n cx it ie) (hb : SimSs G n cx b bs) : SimS G n cx (.for1 k it b) (.For (.Name x p) ie bs [] pos) := fun Y fl ρ' σ' hev =>
  wpAny_For (hi.bindS Y (.refl _) hev fun y yv w₁ σ₁ s₁ q hy hk => by
    obtain ⟨items, hitems, hk⟩ := onO_inv hk
    exact iter_sound (tgt := .Name x p) q.S Y.hA.handled hy hitems trivial fun ob fp T w' l itr st0 hkept hfr =>
      loop_sound (Y.to q) q.hs (asg := fun v ρ => some (upd ρ k v)) (fun v ρ σ r h => ⟨_, rfl, h⟩) (fun Z v x' ρ₁ Ex _ ha hv => by cases ha; exact wpAny_assign_Name (wpAny_mono (store_name Z hvis hx hl hv) (fun _ _ ⟨w', q, _⟩ => ⟨w', q⟩) fun _ _ q => q)) (fun w v x' ρ ρ₁ _ _ hne => absurd rfl (hne x p)) hb ⟨l, get_size _⟩ itr st0 hkept hfr hk fun fw s' q => q) (folded_plain hset)
theorem pair_tup {u v : V} {x : Value} (S : SR G w σ s.heap) (h : VR G w (.tup [u, v]) x) : ∃ a xs y z, x = .ref a ∧ s.heap.IsTuple a xs ∧ xs.toList = [y, z] ∧ VR G w u y ∧ VR G w v z := by
  obtain ⟨a, o, xs, k, rfl, h1, h2, h3, va, _⟩ := h.tupv S
  obtain ⟨y, z, e, hy, hz⟩ := VRs.two va
  exact ⟨a, xs, y, z, rfl, ⟨o, h1, h2, k, h3⟩, e, hy, hz⟩
theorem asg2_inv {k1 k2 : Nat} {v : V} (h : asg2 k1 k2 v ρ = some ρ') : ∃ a b, v = .tup [a, b] ∧ ρ' = upd (upd ρ k1 a) k2 b := by
  cases v with
  | tup vs =>
    rcases vs with _ | ⟨a, _ | ⟨b, _ | _⟩⟩
    · exact no h
    · exact no h
    · cases h; exact ⟨a, b, rfl, rfl⟩
    · exact no h
  | _ => exact no h
theorem sim_for2 {k1 k2 : Nat} {it : E} {b : List S} {x y : Str} {p1 p2 p3 : Pos} {st : Nat} {ie : Expr} {bs : List Stmt} (hvis : VisOK cx.vis) (hx : cx.vis.lookup x = some k1) (hl : cx.scope.names.lookup x = some .local) (hy : cx.vis.lookup y = some k2) (hly : cx.scope.names.lookup y = some .local) (hset : notSetE ie = true)
    (hi : Sim G n cx it ie) (hb : SimSs G n cx b bs) : SimS G n cx (.for2 k1 k2 it b) (.For (.Tuple [.Name x p1, .Name y p2] st p3) ie bs [] pos) := fun Y fl ρ' σ' hev => by
  obtain ⟨hd0, hev⟩ := ifn_inv (show (if Y.hd = true then none else _) = some (fl, ρ', σ') from hev)
  have hd0 : Y.hd = false := Bool.eq_false_iff.mpr hd0
  refine wpAny_For (hi.bindS Y (.refl _) (k := fun itv σ => onO (withLst itv some) fun items => loopEnd false σ itv (loop (fun v ρ σ => onO (asg2 k1 k2 v ρ) fun ρ' => Lw.execs G.P (run G.P n) false Y.dr b ρ' σ) items Y.ρ (lockV σ itv))) (by unfold Pt.ev; show bindE (Lw.ev _ _ Y.hd _ _ _) _ _ = _; rw [hd0]; exact hev) fun z zv w₁ σ₁ s₁ q hz hk => ?_) (folded_plain hset)
  obtain ⟨items, h1, hk⟩ := onO_inv hk
  obtain ⟨vs, rfl, h1⟩ := withLst_inv h1
  cases h1
  refine iter_sound (tgt := .Tuple [.Name x p1, .Name y p2] st p3) (hd := Y.hd) q.S Y.hA.handled hz (items := items) (by unfold itersOf; rw [hd0]; rfl) ⟨items, rfl⟩ fun ob fp T w' l itr st0 hkept hfr => ?_
  refine loop_sound (Y.to q) q.hs (asg := asg2 k1 k2) (fun v ρ σ r h => by rw [show (Y.to q).hd = false from hd0]; exact onO_inv h) (fun Z v x' ρ₁ Ex hZ ha hv => ?_) (fun w v x' ρ ρ₁ ha hv hne => ?_) hb ⟨l, get_size _⟩ itr st0 hkept hfr (by rw [show (Y.to q).hd = false from hd0]; exact hk) fun fw s' q => q
  · obtain ⟨u, v', rfl, rfl⟩ := asg2_inv ha
    obtain ⟨a, xs, y1, z1, rfl, hT, hxs, hu, hv'⟩ := pair_tup Z.S hv
    refine assign_Tuple_tuple (Z.hA.handled (hZ.trans hd0)) hT (by rw [← Array.length_toList, hxs]; rfl) rfl fun h' hext => ?_
    have p : Post G Z.w Z.s Z.w Z.σ { Z.s with heap := h' } := ⟨.of _ _ Z.s.toks, .refl _, Z.S.keeps fun b q e => hext b q (Nat.ne_of_lt (Heap.lt_size e)) e⟩
    rw [hxs]
    exact assignInOrder_cons (wpAny_assign_Name (wpAny_mono (store_local (Z.to p) hvis hx hl hu) (fun _ s2 ⟨w2, q2, sb⟩ => assignInOrder_cons (wpAny_assign_Name (wpAny_mono (store_local ((Z.to p).next q2) hvis hy hly (hv'.mono sb)) (fun _ s3 ⟨w3, q3, _⟩ => assignInOrder_nil ⟨w3, (q3.mono q2.hs).mono p.hs⟩) fun _ _ e => e))) fun _ _ e => e))
  · obtain ⟨u, v', rfl, rfl⟩ := asg2_inv ha
    cases hv; exact ⟨_, rfl⟩
end
end Lw
namespace Lw
open PySem PySem.W PySem.Calls PyProof.Rows
noncomputable def clOf (cells : List (Str × Addr)) : List (Str × NameKind) → List (Str × Addr) → List (Str × Addr)
  | [], acc => acc
  | (x, k) :: r, acc => if k = .free then clOf cells r ((x, (cells.lookup x).getD 0) :: acc) else clOf cells r acc
section
variable {G : Gl} {n : Nat} {cx : Cxt} {w w' w₀ w₁ : Wd} {s s' s₀ : Shared} {σ σ' σ₁ : St} {ρ ρ' : Rho} {env : Env} {pos : Pos} {cells : List (Str × Addr)} {y : Str}
theorem look_cons {α : Type} {x : Str} {a : α} {r : List (Str × α)} (h : y ≠ x) : ((x, a) :: r).lookup y = r.lookup y := by
  rw [List.lookup_cons, show (y == x) = false from beq_eq_false_iff_ne.mpr h]
theorem look_self {α : Type} {x : Str} {a : α} {r : List (Str × α)} : ((x, a) :: r).lookup x = some a := by
  rw [List.lookup_cons, beq_self_eq_true]
theorem getD_some {α : Type} {o : Option α} {d : α} (h : o.isSome = true) : o = some (o.getD d) := by
  cases o with
  | none => exact noB h
  | some a => rfl
theorem clOf_sub : ∀ (names : List (Str × NameKind)) (acc : List (Str × Addr)), (∀ a, acc.lookup y = some a → cells.lookup y = some a) → (∀ x ∈ names, x.2 = .free → (cells.lookup x.1).isSome = true) → ∀ a, (clOf cells names acc).lookup y = some a → cells.lookup y = some a
  | [], acc, h, _ => h
  | (x, k) :: r, acc, h, hn => by
    have hr : ∀ x ∈ r, x.2 = .free → (cells.lookup x.1).isSome = true := fun z hz => hn z (List.mem_cons_of_mem _ hz)
    unfold clOf
    split
    · rename_i hk
      refine clOf_sub r _ (fun b hb => ?_) hr
      by_cases q : y = x
      · subst q
        rw [look_self] at hb
        exact (getD_some (hn (y, k) (List.mem_cons_self ..) hk)).trans hb
      · rw [look_cons q] at hb; exact h b hb
    · exact clOf_sub r acc h hr
theorem clOf_has : ∀ (names : List (Str × NameKind)) (acc : List (Str × Addr)), ((∃ a, acc.lookup y = some a) ∨ (y, NameKind.free) ∈ names) → ∃ a, (clOf cells names acc).lookup y = some a
  | [], acc, h => h.elim id fun q => nomatch q
  | (x, k) :: r, acc, h => by
    unfold clOf
    by_cases q : y = x
    · subst q
      split
      · exact clOf_has r _ (.inl ⟨_, look_self⟩)
      · rename_i hk
        exact clOf_has r _ (h.imp id fun q => (List.mem_cons.mp q).elim (fun e => by cases e; exact absurd rfl hk) id)
    · have h : (∃ a, acc.lookup y = some a) ∨ (y, NameKind.free) ∈ r := h.imp id fun z => (List.mem_cons.mp z).elim (fun e => by cases e; exact absurd rfl q) id
      split
      · exact clOf_has r _ (h.imp (fun ⟨a, e⟩ => ⟨a, (look_cons q).trans e⟩) id)
      · exact clOf_has r _ h
theorem closureFor_is {scope : Scope} (hn : ∀ x ∈ scope.names, x.2 = .free → (env.cells.lookup x.1).isSome = true) : closureFor scope env = pure (clOf env.cells scope.names []) := by
  have key : ∀ (names : List (Str × NameKind)) (acc : List (Str × Addr)), (∀ x ∈ names, x.2 = .free → (env.cells.lookup x.1).isSome = true) →
      forIn names acc (fun x cs => match x with | (name, kind) => if (kind == NameKind.free) = true then do let a ← cellOf env name; pure (ForInStep.yield ((name, a) :: cs)) else pure (ForInStep.yield cs)) = (pure (clOf env.cells names acc) : Sem (List (Str × Addr))) := by
    intro names
    induction names with
    | nil => intro acc _; rfl
    | cons z r ih =>
      obtain ⟨x, k⟩ := z
      intro acc hn
      have hr : ∀ x ∈ r, x.2 = .free → (env.cells.lookup x.1).isSome = true := fun z hz => hn z (List.mem_cons_of_mem _ hz)
      rw [List.forIn_cons]
      unfold clOf
      by_cases hk : k = NameKind.free
      · rw [if_pos hk, ← ih _ hr]
        dsimp only
        rw [if_pos (beq_iff_eq.mpr hk), show cellOf env x = pure ((env.cells.lookup x).getD 0) by unfold cellOf; rw [getD_some (d := 0) (hn (x, k) (List.mem_cons_self ..) hk)]; rfl]
        rfl
      · rw [if_neg hk, ← ih _ hr]
        dsimp only
        rw [if_neg fun e => hk (beq_iff_eq.mp e)]
        rfl
  have := key scope.names [] hn
  unfold closureFor
  simp only [bind_pure_comp] at this ⊢
  rw [this]; rfl
structure CompOK (cx : Cxt) (scope : Scope) (x : Str) (k : Nat) : Prop where
  kind : scope.kind = .function
  x : scope.names.lookup x = some .local
  new : ∀ p ∈ cx.vis, p.2 ≠ k
  free : ∀ z ∈ scope.names, z.2 = .free → cx.scope.names.lookup z.1 = some .cell
  nocell : ∀ z ∈ scope.names, z.2 ≠ .cell
  names : ∀ z ∈ scope.names, z.2 = .local → scope.names.lookup z.1 = some .local
theorem relabel_is {scope : Scope} (hn : Fits G cx env) (hk : env.scope.kind = .function) (hall : ∀ x ∈ scope.names, x.2 = .free → cx.scope.names.lookup x.1 = some .cell) : relabel scope env = compScope scope := by
  unfold relabel compScope
  congr 1
  refine List.map_congr_left fun x hx => ?_
  obtain ⟨y, k⟩ := x
  by_cases q : (k == NameKind.free) = true
  · have e2 : env.kindOf y = some .cell := by show env.scope.names.lookup y = _; rw [hn.names]; exact hall (y, k) hx (beq_iff_eq.mp q)
    simp only [q, hk, e2, beq_self_eq_true, Bool.and_self, Bool.true_and]
  · simp only [q, Bool.false_and]
noncomputable def unfree (k : NameKind) : NameKind := if k == .free then .cell else k
theorem lookup_comp (names : List (Str × NameKind)) : (names.map fun (n, k) => if k == .free then (n, .cell) else (n, k)).lookup y = (names.lookup y).map unfree := by
  rw [show (fun (p : Str × NameKind) => if (p.2 == NameKind.free) = true then (p.1, NameKind.cell) else (p.1, p.2)) = fun p => (p.1, unfree p.2) by funext p; unfold unfree; split <;> rfl]
  induction names with
  | nil => rfl
  | cons z r ih =>
    obtain ⟨x, k⟩ := z
    by_cases q : y = x
    · subst q; rw [List.map_cons, look_self, look_self]; rfl
    · rw [List.map_cons, look_cons q, look_cons q]; exact ih
theorem lookup_filter {vis : List (Str × Nat)} {f : Str → Bool} {j : Nat} (h : (vis.filter fun p => f p.1).lookup y = some j) : f y = true ∧ vis.lookup y = some j := by
  induction vis with
  | nil => exact no h
  | cons z r ih =>
    obtain ⟨x, k⟩ := z
    rw [List.filter_cons] at h
    by_cases q : y = x
    · subst q
      split at h
      · rw [look_self] at h ⊢; exact ⟨‹_›, h⟩
      · rename_i hf; exact absurd (ih h).1 hf
    · rw [look_cons q]
      split at h
      · rw [look_cons q] at h; exact ih h
      · exact ih h
theorem mem_lookup {α : Type} {l : List (Str × α)} {a : α} (h : l.lookup y = some a) : (y, a) ∈ l := by
  induction l with
  | nil => exact no h
  | cons z r ih =>
    obtain ⟨x, k⟩ := z
    by_cases q : y = x
    · subst q; rw [look_self] at h; cases h; exact List.mem_cons_self ..
    · rw [look_cons q] at h; exact List.mem_cons_of_mem _ (ih h)
theorem unfree_cell {k : NameKind} (h : unfree k = .cell) : k = .free ∨ k = .cell := by cases k <;> first | exact .inl rfl | exact .inr rfl | cases h
theorem unfree_local {k : NameKind} (h : unfree k = .local) : k = .local := by cases k <;> first | rfl | cases h
theorem unfree_free {k : NameKind} (h : unfree k = .free) : False := by cases k <;> cases h
theorem inner_fits {scope : Scope} {x : Str} {k : Nat} {C : Addr} (H : CompOK cx scope x k) (hn : Fits G cx env) (hk : env.scope.kind = .function) : Fits G (cx.inner scope x k) (compEnvC scope (clOf env.cells scope.names []) C env) := by
  refine ⟨congrArg Scope.names (relabel_is hn hk H.free), hn.cls, hn.attrs, fun y hy => ?_⟩
  obtain ⟨kd, q, e⟩ := Option.map_eq_some_iff.mp ((lookup_comp scope.names).symm.trans hy)
  have q := mem_lookup q
  rcases unfree_cell e with rfl | rfl
  · obtain ⟨a, e⟩ := clOf_has (cells := env.cells) scope.names [] (.inr q)
    exact Option.isSome_iff_exists.mpr ⟨a, e⟩
  · exact absurd rfl (H.nocell _ q)
theorem inner_vis {scope : Scope} {x z : Str} {k j : Nat} (h : (cx.inner scope x k).vis.lookup z = some j) : (z = x ∧ j = k) ∨ (z ≠ x ∧ scope.names.lookup z = some .free ∧ cx.vis.lookup z = some j) := by
  by_cases q : z = x
  · subst q; exact .inl ⟨rfl, (Option.some.inj (look_self.symm.trans h)).symm⟩
  · have ⟨a, b⟩ := lookup_filter (f := fun n => scope.names.lookup n == some .free) ((look_cons q).symm.trans h)
    exact .inr ⟨q, beq_iff_eq.mp a, b⟩
theorem inner_fr {scope : Scope} {x : Str} {k : Nat} {C : Addr} {v : V} {y : Value} {q : Obj} {m : Str → Option Value} (H : CompOK cx scope x k) (hn : Fits G cx env) (F : FR G w env cx.vis ρ) (hC : w.m C = some (.fr q)) (hq : ObjNs q m) (hm : m x = some y) (hv : VR G w v y) :
    FR G w (compEnvC scope (clOf env.cells scope.names []) C env) (cx.inner scope x k).vis (upd ρ k v) := by
  have hrl := congrArg Scope.names (relabel_is hn F.kind H.free)
  have kd : ∀ {z u}, (compEnvC scope (clOf env.cells scope.names []) C env).scope.names.lookup z = some u → ∃ d, scope.names.lookup z = some d ∧ unfree d = u := fun e =>
    Option.map_eq_some_iff.mp ((lookup_comp scope.names).symm.trans ((congrArg (List.lookup _) hrl.symm).trans e))
  refine ⟨congrArg Scope.kind (relabel_is hn F.kind H.free) |>.trans H.kind, F.glob, F.bi, ⟨q, m, hC, hq, fun z j u e1 e2 e3 => ?_⟩, fun z j u e1 e2 e3 => ?_⟩
  · rcases inner_vis e1 with ⟨rfl, rfl⟩ | ⟨_, e4, _⟩
    · cases (if_pos rfl).symm.trans e3; exact ⟨y, hm, hv⟩
    · obtain ⟨d, d1, d2⟩ := kd e2
      rw [e4] at d1; cases d1; cases d2
  · rcases inner_vis e1 with ⟨rfl, rfl⟩ | ⟨_, e4, e5⟩
    · rcases e2 with e2 | e2
      · obtain ⟨d, d1, d2⟩ := kd e2; rw [H.x] at d1; cases d1; cases d2
      · obtain ⟨d, d1, d2⟩ := kd e2; exact (unfree_free d2).elim
    · have e3 : ρ j = some u := (if_neg (H.new _ (mem_lookup e5))).symm.trans e3
      obtain ⟨a, o, t, d1, d2, d3, d4⟩ := F.cells z j u e5 (.inl (by rw [hn.names]; exact H.free _ (mem_lookup e4) rfl)) e3
      obtain ⟨a', ha'⟩ := clOf_has (cells := env.cells) scope.names [] (.inr (mem_lookup e4))
      have := clOf_sub scope.names [] (fun _ h => no h) (fun z hz hf => hn.cells z.1 (H.free z hz hf)) a' ha'
      rw [d1] at this; cases this
      exact ⟨a, o, t, ha', d2, d3, d4⟩
end
end Lw
namespace Lw
open PySem PySem.W PySem.Calls PyProof.Rows
theorem bindM_ok {α β : Type} {m : Option (Res α × St)} {k : α → St → Option (Res β × St)} {b : β} {σ' : St} (h : bindM m k = some (.ok b, σ')) : ∃ a σ₁, m = some (.ok a, σ₁) ∧ k a σ₁ = some (.ok b, σ') := by
  rcases m with _ | ⟨_ | _, _⟩
  · exact no h
  · exact ⟨_, _, rfl, h⟩
  · cases h
theorem okM_inv {α : Type} {m : Option (Res α × St)} {r : α × St} (h : okM m = some r) : m = some (.ok r.1, r.2) := by
  rcases m with _ | ⟨_ | _, _⟩
  · exact no h
  · cases h; rfl
  · exact no h
theorem fr_nofix {o : Obj} : ∀ z, Own.fr o ≠ .fix z := fun _ q => nomatch q
section
variable {G : Gl} {n : Nat} {cx : Cxt} {w w' w₀ w1 w2 : Wd} {s s' s₀ s1 : Shared} {σ σ' σ1 σr : St} {ρ ρ' : Rho} {env : Env} {pos : Pos} {I D C : Addr} {p q : Obj} {ys : Array Value} {e : Nat}
structure CIn (w' : Wd) (I D C : Addr) (w1 : Wd) (p : Obj) (ys : Array Value) (e : Nat) (q : Obj) : Prop where
  le : w'.Le w1
  i : w1.m I = some (.own p)
  d : w1.m D = some (.own (listObj ys e))
  c : w1.m C = some (.fr q)
theorem CIn.to (c : CIn w' I D C w1 p ys e q) (h : w1.Le w2) : CIn w' I D C w2 p ys e q := ⟨c.le.trans h, h.m _ _ c.i, h.m _ _ c.d, h.m _ _ c.c⟩
theorem Wd.Le.out {a : Addr} {x : Own} (h : w'.Le w1) (hn : w'.m a = none) : w'.Le (w1.set a x) := ⟨fun b o e => (Wd.set_ne fun q => by rw [q, hn] at e; cases e).trans (h.m b o e), h.φ⟩
structure Cm (X : Pt G n cx) (scope : Scope) (x : Str) (k : Nat) (itv : V) (w' : Wd) (I D C : Addr) : Prop where
  H : CompOK cx scope x k
  l : Lk G X.w X.s.heap X.σ itv w'
  i : w'.m I = none
  d : w'.m D = none
  c : w'.m C = none
  di : D ≠ I
  ci : C ≠ I
  cd : C ≠ D
section
variable {X : Pt G n cx} {scope : Scope} {x : Str} {k : Nat} {itv v : V} {y : Value} {m : Str → Option Value} (M : Cm X scope x k itv w' I D C)
include M
theorem Cm.setI {p2 : Obj} (c : CIn w' I D C w1 p ys e q) : CIn w' I D C (w1.set I (.own p2)) p2 ys e q := ⟨c.le.out M.i, Wd.set_at, (Wd.set_ne M.di).trans c.d, (Wd.set_ne M.ci).trans c.c⟩
theorem Cm.setD {ys' : Array Value} {e' : Nat} (c : CIn w' I D C w1 p ys e q) : CIn w' I D C (w1.set D (.own (listObj ys' e'))) p ys' e' q := ⟨c.le.out M.d, (Wd.set_ne (Ne.symm M.di)).trans c.i, Wd.set_at, (Wd.set_ne M.cd).trans c.c⟩
theorem Cm.setC {q' : Obj} (c : CIn w' I D C w1 p ys e q) : CIn w' I D C (w1.set C (.fr q')) p ys e q' := ⟨c.le.out M.c, (Wd.set_ne (Ne.symm M.ci)).trans c.i, (Wd.set_ne (Ne.symm M.cd)).trans c.d, Wd.set_at⟩
theorem Cm.fr : FR G w' X.env cx.vis X.ρ := X.F.swap M.l.sub fun _ _ _ e => M.l.fr e fr_nolk
noncomputable def Cm.pt (c : CIn w' I D C w1 p ys e q) (S : SR G w1 σ1 s1.heap) (hh : X.hd = false) (hN : ObjNs q m) (hm : m x = some y) (hv : VR G w1 v y) : Pt G n (cx.inner scope x k) :=
  ⟨false, w1, upd X.ρ k v, σ1, compEnvC scope (clOf X.env.cells scope.names []) C X.env, X.envs, X.A, s1, (X.B.mono M.l.sub).mono c.le.sub, S, inner_fr M.H X.hn (M.fr.mono c.le) c.c hN hm hv, inner_fits M.H X.hn X.F.kind,
    hh ▸ (X.hA.mono fun _ _ e => c.le.m _ _ (M.l.fr e fr_nolk)), X.fr⟩
theorem Cm.stays {A : Around} {hd : Bool} {tgt : Expr} {fp : List Addr} {items : List V} {T : Nat → Heap → Prop} {i : Nat} {q1 q2 : Obj} {y1 y2 : Array Value} {e1 e2 : Nat} {σ₁ σ₂ : St} {h₁ h₂ : Heap} (it : Itr G A hd X.w tgt I fp items T) (hkept : ∀ b ∈ fp, ∃ o q, w'.m b = some o ∧ o.ex = some q)
    (c1 : CIn w' I D C w1 p y1 e1 q1) (c2 : CIn w' I D C w2 p y2 e2 q2) (S1 : SR G w1 σ₁ h₁) (S2 : SR G w2 σ₂ h₂) (st : T i h₁) : T i h₂ := by
  refine it.frame i h₁ h₂ st fun b hb y e => ?_
  rcases hb with rfl | hb
  · rw [S1.m _ _ c1.i] at e; cases e
    exact S2.m _ _ c2.i
  · obtain ⟨o, q, e1, e2⟩ := hkept b hb
    rw [(S1.m _ _ (c1.le.m _ _ e1)).exact e2] at e; cases e
    exact (S2.m _ _ (c2.le.m _ _ e1)).exact e2
theorem Cm.outer {a : Addr} (h : w'.m a = none) : X.w.m a = none := by
  cases z : X.w.m a with
  | none => rfl
  | some o => obtain ⟨y, hy⟩ := M.l.agree z; rw [h] at hy; cases hy
theorem Cm.done {mt : Bool} {xs : List V} {h1 : Heap} {s3 : Shared} {r : Res V} (c : CIn w' I D C w1 p ys e q) (S : SR G w1 σr h1) (hx : VRs G w1 xs ys.toList) (hl : xs.length ≤ lim) (hs : Same X.s s3)
    (hk : ∀ b o, b ≠ I → h1.get? b = some o → s3.heap.get? b = some o) (hm : mkL mt xs (unlockV X.σ itv σr) = some (r, σ')) : ∃ a w3, r = .ok a ∧ Post G X.w X.s w3 σ' s3 ∧ VR G w3 a (.ref D) ∧ w3.m C = some (.fr q) := by
  have n1 : ∀ {a x}, w'.m a = some x → a ≠ I := fun e z => by rw [z, M.i] at e; cases e
  have st : ∀ {a x}, w'.m a = some x → (w1.del I).m a = some x := fun e => (Wd.del_ne (n1 e)).trans (c.le.m _ _ e)
  have sub1 : w1.Sub (w1.del I) := ⟨fun a o e => (Wd.del_ne fun z => by rw [z, c.i] at e; cases e).trans e, List.prefix_refl _⟩
  obtain ⟨w3, S3, sb, keeps, hφ, hag⟩ := M.l.unlock (w₁ := w1.del I) ⟨fun a o e => st e, c.le.φ⟩ (fun a x e _ => st e) (S.del c.i own_nofix (Wd.unheld_own c.i) hk)
  have hD : w3.m D = some (.own (listObj ys e)) := keeps _ _ ((Wd.del_ne M.di).trans c.d) fun i ob l z => by cases l <;> cases z
  have hC : w3.m C = some (.fr q) := keeps _ _ ((Wd.del_ne M.ci).trans c.c) fr_nolk
  have le : X.w.Le w3 := ⟨fun a x e' => let ⟨y, hy⟩ := M.l.agree e'; hag a x e' ((st hy).trans hy.symm), hφ ▸ M.l.sub.φ.trans c.le.φ⟩
  have hx3 : VRs G w3 xs ys.toList := (hx.mono sub1).mono sb
  have hDn := M.outer M.d
  have hat := S3.m _ _ hD
  rcases mkL_inv hm with ⟨rfl, rfl⟩ | ⟨rfl, rfl⟩
  · have ne : ∀ {a o}, w3.m a = some (.fix o) → a ≠ D := fun e' z => by rw [z, hD] at e'; cases e'
    have sub : w3.Sub (w3.new (D, D)) := ⟨fun a o e' => (Wd.new_ne (p := (D, D)) (ne e') (ne e')).trans e', List.prefix_append _ _⟩
    exact ⟨_, _, rfl, ⟨hs, Wd.le_new le hDn hDn, S3.adopt (p := (D, D)) sub (Wd.unheld_own hD) (Wd.unheld_own hD) (fun _ _ _ _ e => e) ⟨_, hat⟩ ⟨_, hat⟩ ⟨rfl, ys, e, hat, Wd.new_1 (p := (D, D)), hx3.mono sub, hl⟩⟩, S3.refNew (s := s3), (Wd.new_ne (p := (D, D)) M.cd M.cd).trans hC⟩
  · exact ⟨_, _, rfl, ⟨hs, le.out hDn, S3.turn (x := .fix (listObj ys e)) hD (fun _ _ _ e => e) hat⟩, .lst Wd.set_at rfl rfl (hx3.mono (sub_set hD own_nofix)) hl, (Wd.set_ne M.cd).trans hC⟩
end
theorem sub_del {a : Addr} (h : w.m a = some (.fr q)) : w.Sub (w.del a) := ⟨fun b o e => (Wd.del_ne fun z => by rw [z, h] at e; cases e).trans e, List.prefix_refl _⟩
theorem Post.drop {h3 : Heap} (P : Post G w s w1 σ' s1) (hC : w1.m C = some (.fr q)) (hn : w.m C = none) (k : Heap.SameBut C s1.heap h3) : Post G w s (w1.del C) σ' { s1 with heap := h3 } :=
  ⟨P.hs.trans (.of _ _ s1.toks), ⟨fun a x e => (Wd.del_ne fun z => by rw [z, hn] at e; cases e).trans (P.hw.m _ _ e), P.hw.φ⟩, P.S.del hC fr_nofix (Wd.unheld_fr hC) fun b o hb e => (k.2 b hb).trans e⟩
structure CInv {X : Pt G n cx} {scope : Scope} {x : Str} {k : Nat} {itv : V} (_ : Cm X scope x k itv w' I D C) (T : Nat → Heap → Prop) (test elt : V → St → RV) (items xs : List V) (σr : St) (i : Nat) (s1 : Shared) (w1 : Wd) (p : Obj) (ys : Array Value) (e : Nat) (q : Obj) (acc : List V) (σ1 : St) : Prop where
  hi : i ≤ items.length
  hs : Same X.s s1
  c : CIn w' I D C w1 p ys e q
  S : SR G w1 σ1 s1.heap
  ns : ∃ m, ObjNs q m
  va : VRs G w1 acc ys.toList
  al : acc.length ≤ i
  st : T i s1.heap
  ev : ∃ rest, compL test elt (items.drop i) σ1 = some (.ok rest, σr) ∧ acc ++ rest = xs
theorem comp_turn {ee : Expr} {test : V → St → RV} {elt : E} {k : Nat} {x : Str} {px : Pos} {scope : Scope} {items xs acc rest : List V} {fp : List Addr} {T : Nat → Heap → Prop} {E1 E2 : Value → Shared → Prop} {itv v : V} {b : Bool} {i : Nat} {m : Str → Option Value} {y : Value} {X : Pt G n cx}
    (M : Cm X scope x k itv w' I D C) (hh : X.hd = false) (hce : Sim G n (cx.inner scope x k) elt ee) (it : Itr G X.A false X.w (.Name x px) I fp items T) (hkept : ∀ b ∈ fp, ∃ o q, w'.m b = some o ∧ o.ex = some q) (hlen : items.length ≤ lim)
    (hlt : i < items.length) (c : CIn w' I D C w1 p ys e q) (S : SR G w1 σ1 s1.heap) (hs : Same X.s s1) (hN : ObjNs q m) (hm : m x = some y) (hy : VR G w1 v y) (va : VRs G w1 acc ys.toList) (al : acc.length ≤ i) (st : T (i + 1) s1.heap) (hxs : acc ++ rest = xs)
    (hc : (match b with
      | true => bindM (ev G.P (run G.P n) false elt (upd X.ρ k v) σ1) fun x σ => bindM (compL test (fun v σ => ev G.P (run G.P n) false elt (upd X.ρ k v) σ) (items.drop (i + 1)) σ) fun xs σ => some (.ok (x :: xs), σ)
      | false => compL test (fun v σ => ev G.P (run G.P n) false elt (upd X.ρ k v) σ) (items.drop (i + 1)) σ1) = some (.ok rest, σr)) :
    if b = true then wpAny G.M X.A (eval ee (compEnvC scope (clOf X.env.cells scope.names []) C X.env)) (fun z s₄ => wpAny G.M X.A (call (.builtin "list.append") [.ref D, z]) (fun _ s₅ => ∃ m, m < items.length + 1 - i ∧ ∃ i w1 p ys e q acc σ1, m = items.length + 1 - i ∧ CInv M T test (fun v σ => ev G.P (run G.P n) false elt (upd X.ρ k v) σ) items xs σr i s₅ w1 p ys e q acc σ1) E1 s₄) E2 s1
    else ∃ m, m < items.length + 1 - i ∧ ∃ i w1 p ys e q acc σ1, m = items.length + 1 - i ∧ CInv M T test (fun v σ => ev G.P (run G.P n) false elt (upd X.ρ k v) σ) items xs σr i s1 w1 p ys e q acc σ1 := by
  have less := Nat.sub_lt_sub_left (Nat.lt_succ_of_lt hlt) (Nat.lt_succ_self i)
  cases b with
  | false => exact (if_neg Bool.false_ne_true).mpr ⟨_, less, i + 1, w1, p, ys, e, q, acc, σ1, rfl, hlt, hs, c, S, ⟨m, hN⟩, va, Nat.le_succ_of_le al, st, rest, hc, hxs⟩
  | true =>
    refine (if_pos rfl).mpr ?_
    obtain ⟨xe, σ3, he, hc⟩ := bindM_ok hc
    obtain ⟨rest', σ4, hr, hc⟩ := bindM_ok hc
    cases hc
    refine wpAny_mono (hce.v (M.pt c S hh hN hm hy) _ _ he) (fun z s5 ⟨w5, P, hz⟩ => ?_) fun _ _ q => q.elim
    have c5 := c.to P.hw
    refine wpAny_list_append_plain (l := D) (items := ys) ⟨e, P.S.m _ _ c5.d⟩ (fun h6 ⟨e6, he6⟩ hS6 => ?_) (by rw [← VRs.size va]; exact lim_size0 (Nat.le_trans al (Nat.le_trans (Nat.le_of_lt hlt) hlen)))
    have S6 : SR G (w5.set D (.own (listObj (ys.push z) e6))) σ3 h6 := P.S.turn c5.d (fun b o hb e => (hS6.2 b hb).trans e) he6
    have sb := sub_set (x := .own (listObj (ys.push z) e6)) c5.d own_nofix
    exact ⟨_, less, i + 1, _, p, ys.push z, e6, q, acc ++ [xe], σ3, rfl, hlt, (hs.trans P.hs).trans (.of _ _ s5.toks), M.setD c5, S6, ⟨m, hN⟩, by rw [Array.toList_push]; exact All2.append ((va.mono P.hw.sub).mono sb) (.cons (hz.mono sb) .nil), by rw [List.length_append]; exact Nat.succ_le_succ al, M.stays it hkept c (M.setD c5) S S6 st, rest', hr, by rw [List.append_assoc]; exact hxs⟩
theorem comp_loop {ee ie : Expr} {elt cond : E} {k : Nat} {x : Str} {px : Pos} {ifs : List Expr} {scope : Scope} {items xs : List V} {fp : List Addr} {T : Nat → Heap → Prop} {RR : Result → Shared → Prop} {itv : V} {s1 : Shared} {X : Pt G n cx} {acc : List V}
    (M : Cm X scope x k itv w' I D C) (hh : X.hd = false) (hce : Sim G n (cx.inner scope x k) elt ee) (hcc : (ifs = [] ∧ cond = .cBool true) ∨ ∃ e, ifs = [e] ∧ Sim G n (cx.inner scope x k) cond e)
    (it : Itr G X.A false X.w (.Name x px) I fp items T) (hkept : ∀ b ∈ fp, ∃ o q, w'.m b = some o ∧ o.ex = some q) (hlen : items.length ≤ lim)
    (start : CInv M T (fun v σ => ev G.P (run G.P n) false cond (upd X.ρ k v) σ) (fun v σ => ev G.P (run G.P n) false elt (upd X.ρ k v) σ) items xs σr 0 s1 w1 p ys e q acc σ1)
    (hRR : ∀ w1 p ys e q h1 s2, CIn w' I D C w1 p ys e q → SR G w1 σr h1 → (∃ m, ObjNs q m) → VRs G w1 xs ys.toList → xs.length ≤ lim → Same X.s s2 → (∀ b o, b ≠ I → h1.get? b = some o → s2.heap.get? b = some o) → RR (.ok .next) s2) :
    codeAny G.M X.A (.compLoop (.ListComp ee [⟨.Name x px, ie, ifs, 0⟩] scope pos) 0 (.ref I) (.ref D) (compEnvC scope (clOf X.env.cells scope.names []) C X.env)) RR s1 := by
  refine codeAny_compLoop_tests (fun m s1 => ∃ i w1 p ys e q acc σ1, m = items.length + 1 - i ∧ CInv M T (fun v σ => ev G.P (run G.P n) false cond (upd X.ρ k v) σ) (fun v σ => ev G.P (run G.P n) false elt (upd X.ρ k v) σ) items xs σr i s1 w1 p ys e q acc σ1) ?_ (items.length + 1) ⟨0, _, _, _, _, _, _, _, rfl, start⟩
  rintro m s1 ⟨i, w1, p, ys, e, q, acc, σ1, rfl, L⟩
  obtain ⟨rest, hc, hxs⟩ := L.ev
  cases hv : items[i]? with
  | none =>
    have hie : i = items.length := Nat.le_antisymm L.hi (List.getElem?_eq_none_iff.mp hv)
    subst hie
    rw [List.drop_length] at hc
    cases hc
    rw [List.append_nil] at hxs
    subst hxs
    exact it.done rfl s1 _ _ L.st fun h2 tk k => hRR w1 p ys e q s1.heap { s1 with heap := h2, toks := tk } L.c L.S L.ns L.va (Nat.le_trans L.al hlen) (L.hs.trans (.of _ _ _)) k
  | some v =>
    have hlt : i < items.length := (List.getElem?_eq_some_iff.mp hv).1
    rw [List.drop_eq_getElem_cons hlt, (List.getElem?_eq_some_iff.mp hv).2] at hc
    obtain ⟨tv, σ2, ht, hc⟩ := bindM_ok hc
    obtain ⟨b, htv, hc⟩ := onO_inv hc
    refine it.item i v s1 _ _ hv L.st fun y h2 tk hy st2 k2 => ?_
    obtain ⟨p2, hp2⟩ := it.at_ _ _ st2
    obtain ⟨mq, hN⟩ := L.ns
    have c2 := M.setI (p2 := p2) L.c
    have S2 : SR G (w1.set I (.own p2)) σ1 h2 := L.S.turn L.c.i k2 hp2
    obtain ⟨_, sl, hatC⟩ := S2.m _ _ c2.c
    refine wpAny_assign_Name (wpAny_storeName_local (s := { s1 with heap := h2, toks := tk }) (m := mq) (lookup_relabel_local M.H.x) ((hN.slots sl).ns hatC) (fun h3 hn3 hs3 => ?_) (by rw [show (compEnvC scope (clOf X.env.cells scope.names []) C X.env).scope.kind = .function from M.H.kind]; rfl))
    obtain ⟨q3, hq3, hN3⟩ := ObjNs.of hn3
    have c3 := M.setC (q' := q3) c2
    have S3 : SR G ((w1.set I (.own p2)).set C (.fr q3)) σ1 h3 := S2.turnF c2.c (fun b o hb e => (hs3.2 b hb).trans e) (okFr (let ⟨_, _, e, _⟩ := hN3; fun vs z => by rw [e] at z; cases z) hq3)
    have sub3 : w1.Sub ((w1.set I (.own p2)).set C (.fr q3)) := ⟨fun a o e => (sub_set c2.c fr_nofix).m _ _ ((sub_set L.c.i own_nofix).m _ _ e), List.prefix_refl _⟩
    have st3 := M.stays it hkept c2 c3 S2 S3 st2
    have hy3 : VR G ((w1.set I (.own p2)).set C (.fr q3)) v y := (hy.mono M.l.sub).mono ⟨fun a o e => sub3.m _ _ (L.c.le.m _ _ e), L.c.le.φ⟩
    have hs3 : Same X.s { s1 with heap := h3, toks := tk + 1 } := L.hs.trans (.of _ _ _)
    have hm3 : (fun k => if k = x then some y else mq k) x = some y := if_pos rfl
    rcases hcc with ⟨rfl, rfl⟩ | ⟨ce, rfl, hcs⟩
    · cases ht
      cases htv
      exact wpAny_tests_nil (comp_turn (b := true) M hh hce it hkept hlen hlt c3 S3 hs3 hN3 hm3 hy3 (L.va.mono sub3) L.al st3 hxs hc)
    · refine wpAny_tests_one (wpAny_mono (hcs.t (M.pt c3 S3 hh hN3 hm3 hy3) _ _ ht fun _ q => by cases q; exact ⟨b, htv⟩) (fun b' s4 ⟨w4, P, hb'⟩ => ?_) fun _ _ q => q.elim)
      have hb' : truthV σ2 tv = some b' := hb'
      rw [htv] at hb'; cases hb'
      exact comp_turn M hh hce it hkept hlen hlt (c3.to P.hw) P.S (hs3.trans P.hs) hN3 hm3 (hy3.mono P.hw.sub) ((L.va.mono sub3).mono P.hw.sub) L.al (M.stays it hkept c3 (c3.to P.hw) S3 P.S st3) hxs hc
end
end Lw
namespace Lw
open PySem PySem.W PySem.Calls PyProof.Rows
section
variable {G : Gl} {n : Nat} {cx : Cxt} {w w' w₀ w1 w2 : Wd} {s s' s₀ s1 : Shared} {σ σ' σ1 σr : St} {ρ ρ' : Rho} {env : Env} {pos : Pos}
theorem items_lim {v : V} {x : Value} {items : List V} (S : SR G w σ s.heap) (hv : VR G w v x) (hi : itemsOf σ v = some items) : items.length ≤ lim := by
  cases hv with
  | tup _ _ _ _ l => cases hi; exact l
  | lst _ _ _ _ l => cases hi; exact l
  | rng _ _ =>
    obtain ⟨⟨_, _, _, _, hl⟩, hi⟩ := if_inv hi
    cases hi
    unfold rngList
    rw [List.length_map, List.length_range]; exact hl
  | ref hp =>
    obtain ⟨o, hg, hi⟩ := onO_inv hi
    have rr := S.ref hp hg
    cases o with
    | list l vs => cases hi; obtain ⟨_, _, _, _, _, _, h⟩ := rr; exact h
    | di l es => cases hi; obtain ⟨_, _, _, _, _, _, _, h, _⟩ := rr; rw [List.length_map]; exact h
    | ds l es => cases hi; obtain ⟨⟨_, _, _, _, _, _, _, h, _⟩, _⟩ := rr; rw [List.length_map]; exact h
    | inst => exact no hi
  | _ => exact no hi
theorem comp_start {mt : Bool} {ee ie : Expr} {elt cond : E} {k : Nat} {x : Str} {px : Pos} {ifs : List Expr} {scope : Scope} {items : List V} {fp : List Addr} {T : Nat → Heap → Prop} {itv : V} {r : Res V} {rs : List V × St} {X : Pt G n cx} {ob : Obj} {RR : Value → Addr → Result → Shared → Prop} {Ex : Value → Shared → Prop}
    (H : CompOK cx scope x k) (hh : X.hd = false) (hce : Sim G n (cx.inner scope x k) elt ee) (hcc : (ifs = [] ∧ cond = .cBool true) ∨ ∃ e, ifs = [e] ∧ Sim G n (cx.inner scope x k) cond e)
    (l : Lk G X.w X.s.heap X.σ itv w') (it : Itr G X.A false X.w (.Name x px) X.s.heap.objs.size fp items T) (st : T 0 (X.s.heap.push ob)) (hkept : ∀ b ∈ fp, ∃ o q, w'.m b = some o ∧ o.ex = some q) (hfr : ob.isFreed = false) (hlen : items.length ≤ lim)
    (hc : okM (compL (fun v σ => ev G.P (run G.P n) false cond (upd X.ρ k v) σ) (fun v σ => ev G.P (run G.P n) false elt (upd X.ρ k v) σ) items (lockV X.σ itv)) = some rs) (hm : mkL mt rs.1 (unlockV X.σ itv rs.2) = some (r, σ'))
    (hRR : ∀ D C a w3 q s2, r = .ok a → Post G X.w X.s w3 σ' s2 → VR G w3 a (.ref D) → w3.m C = some (.fr q) → (∃ m, ObjNs q m) → X.w.m C = none → RR (.ref D) C (.ok .next) s2) :
    wpAny G.M X.A (newList []) (fun acc s₃ => wpAny G.M X.A (newFunctionEnv scope X.env.globals (clOf X.env.cells scope.names []) [] X.env.qual none .none (some X.env)) (fun cenv s₄ =>
      codeAny G.M X.A (.compStart (.ListComp ee [⟨.Name x px, ie, ifs, 0⟩] scope pos) 0 (.ref X.s.heap.objs.size) acc { cenv with scope := relabel scope X.env }) (RR acc cenv.locals) s₄) Ex s₃) Ex { X.s with heap := X.s.heap.push ob } := by
  refine wpAny_newObj_type (wpAny_newFunctionEnv H.nocell (fun _ hy => nomatch hy) (fun h₁ hns₁ hsb₁ => ?_) H.kind)
  dsimp only at hns₁ hsb₁ ⊢
  have eD : (X.s.heap.push ob).objs.size = X.s.heap.objs.size + 1 := Heap.size_push ..
  have eC : ((X.s.heap.push ob).push { cls := .type "list", dict := none, data := .seq ([] : List Value).toArray }).objs.size = X.s.heap.objs.size + 2 := (Heap.size_push ..).trans (congrArg (· + 1) eD)
  have old : ∀ b o, ((X.s.heap.push ob).push { cls := .type "list", dict := none, data := .seq ([] : List Value).toArray }).get? b = some o → h₁.get? b = some o := fun b o e => hsb₁.extBut b o (Nat.ne_of_lt (Heap.lt_size e)) (Heap.get?_push_of_some _ e)
  have hI1 : h₁.get? X.s.heap.objs.size = some ob := old _ _ (Heap.get?_push_of_some _ (Heap.get?_push_size _ hfr))
  have hD1 : h₁.get? (X.s.heap.objs.size + 1) = some (listObj #[] 0) := old _ _ (eD ▸ Heap.get?_push_size _ rfl)
  have hout : ∀ j, X.s.heap.get? (X.s.heap.objs.size + j) = none := fun j => by
    cases q : X.s.heap.get? (X.s.heap.objs.size + j) with
    | none => rfl
    | some o => exact absurd (Heap.lt_size q) (Nat.not_lt.mpr (Nat.le_add_right _ _))
  have hwn : ∀ j, w'.m (X.s.heap.objs.size + j) = none := fun j => l.none (X.S.fresh (hout j))
  rw [eC] at hns₁ hsb₁ ⊢
  rw [eD]
  obtain ⟨q₀, hq₀, hN₀⟩ := ObjNs.of hns₁
  have M : Cm X scope x k itv w' X.s.heap.objs.size (X.s.heap.objs.size + 1) (X.s.heap.objs.size + 2) := ⟨H, l, hwn 0, hwn 1, hwn 2, Nat.succ_ne_self _, Nat.ne_of_gt (Nat.lt_add_of_pos_right (by decide)), Nat.succ_ne_self _⟩
  have S1 := (l.sr X.S).put (x := .own ob) (hout 0) (fun b o e => old b o (Heap.get?_push_of_some _ (Heap.get?_push_of_some _ e))) hI1
  have n1 : (w'.set X.s.heap.objs.size (.own ob)).m (X.s.heap.objs.size + 1) = none := (Wd.set_ne M.di).trans M.d
  have S2 := S1.set (x := .own (listObj #[] 0)) (Wd.le_set n1).sub (Wd.unheld_none n1) (fun _ _ _ e => e) hD1
  have n2 : ((w'.set X.s.heap.objs.size (.own ob)).set (X.s.heap.objs.size + 1) (.own (listObj #[] 0))).m (X.s.heap.objs.size + 2) = none := ((Wd.set_ne M.cd).trans (Wd.set_ne M.ci)).trans M.c
  have S3 := S2.set (x := .fr q₀) (Wd.le_set n2).sub (Wd.unheld_none n2) (fun _ _ _ e => e) (okFr (let ⟨_, _, e, _⟩ := hN₀; fun vs z => by rw [e] at z; cases z) hq₀)
  have le2 := Wd.le_set (x := .fr q₀) n2
  have c : CIn w' X.s.heap.objs.size (X.s.heap.objs.size + 1) (X.s.heap.objs.size + 2) _ ob #[] 0 q₀ := ⟨(Wd.le_set M.i).trans ((Wd.le_set n1).trans le2), le2.m _ _ ((Wd.set_ne (Ne.symm M.di)).trans Wd.set_at), le2.m _ _ Wd.set_at, Wd.set_at⟩
  have st1 : T 0 h₁ := it.frame 0 _ _ st fun b _ o e => old b o (Heap.get?_push_of_some _ e)
  have loop := comp_loop (pos := pos) (ie := ie) (RR := RR (.ref (X.s.heap.objs.size + 1)) (X.s.heap.objs.size + 2)) (s1 := { X.s with heap := h₁, toks := X.s.toks + ([] : List (Str × Value)).length }) M hh hce hcc it hkept hlen ⟨Nat.zero_le _, .of _ _ _, c, S3, ⟨_, hN₀⟩, .nil, Nat.zero_le _, st1, rs.1, okM_inv hc, rfl⟩
    fun w1 p ys e q h1 s2 c1 S1 hN hx hl hs hk => by
      obtain ⟨a, w3, e1, P, hv, hC⟩ := M.done c1 S1 hx hl hs hk hm
      exact hRR _ _ a w3 q s2 e1 P hv hC hN (M.outer M.c)
  exact codeAny_compStart_list loop (it.self 0 _ _ _ st1 loop)
theorem sim_comp {mt : Bool} {ee ie : Expr} {elt it cond : E} {k : Nat} {x : Str} {px : Pos} {ifs : List Expr} {scope : Scope} (hset : notSetE ie = true) (H : CompOK cx scope x k) (hi : Sim G n cx it ie) (hce : Sim G n (cx.inner scope x k) elt ee)
    (hcc : (ifs = [] ∧ cond = .cBool true) ∨ ∃ e, ifs = [e] ∧ Sim G n (cx.inner scope x k) cond e) : Sim G n cx (.comp mt elt k it cond) (.ListComp ee [⟨.Name x px, ie, ifs, 0⟩] scope pos) := .of (fun X r σ' hev => by
  obtain ⟨hh, hev⟩ := ifn_inv hev
  have hh : X.hd = false := Bool.eq_false_iff.mpr hh
  rw [eval_ListComp]
  refine wpAny_comprehension_free (use := none) rfl (folded_plain hset) (closureFor_is fun z hz hf => X.hn.cells z.1 (H.free z hz hf)) H.kind H.names ?_
  have hev : bindM (X.ev it) (fun itv σ => onO (itemsOf σ itv) fun items => onO (okM (compL (fun v σ => ev G.P (run G.P n) false cond (upd X.ρ k v) σ) (fun v σ => ev G.P (run G.P n) false elt (upd X.ρ k v) σ) items (lockV σ itv))) fun r => mkL mt r.1 (unlockV σ itv r.2)) = some (r, σ') := by
    unfold Pt.ev; rw [hh]; exact hev
  refine hi.bind X .refl hev fun itv xv w₁ σ₁ s₁ p hx hk => ?_
  obtain ⟨items, hitems, hk⟩ := onO_inv hk
  obtain ⟨rs, hc, hk⟩ := onO_inv hk
  refine iter_sound (hd := false) (tgt := .Name x px) (items := items) p.S (fun _ => X.hA.handled hh) hx hitems trivial fun ob fp T w' l itr st0 hkept hfr => ?_
  exact comp_start (X := X.to p) H hh hce hcc l itr st0 hkept hfr (items_lim p.S hx hitems) hc hk fun D C a w3 q s2 e1 P hv hC ⟨m, hN⟩ hn => by
    obtain ⟨_, sl, hat⟩ := P.S.m _ _ hC
    subst e1
    exact ⟨m, (hN.slots sl).ns hat, fun h3 hs3 => ⟨_, p.ahead.post (P.drop hC hn hs3), hv.mono (sub_del hC)⟩⟩) fun _ _ => rfl
theorem bindE_bindM {m : RV} {f : V → St → RV} {ρ : Rho} {k : V → St → RS} : bindE (bindM m f) ρ k = bindE m ρ fun a σ => bindE (f a σ) ρ k := by
  rcases m with _ | ⟨_ | _, _⟩ <;> rfl
theorem bindE_onO {α : Type} {o : Option α} {f : α → RV} {ρ : Rho} {k : V → St → RS} : bindE (onO o f) ρ k = onO o fun a => bindE (f a) ρ k := by
  cases o <;> rfl
theorem bindE_mkL {mt : Bool} {vs : List V} {ρ : Rho} {k : V → St → RS} {r : Fl × Rho × St} (h : bindE (mkL mt vs σ) ρ k = some r) : ∃ a σ2, mkL mt vs σ = some (.ok a, σ2) ∧ k a σ2 = some r := by
  cases mt <;> exact ⟨_, _, rfl, h⟩
theorem none_le {a : Addr} (h : w.Le w') (e : w'.m a = none) : w.m a = none := by
  cases z : w.m a with
  | none => rfl
  | some o => have := h.m _ _ z; rw [e] at this; cases this
theorem SPost.drop {ρ' : Rho} {C : Addr} {q : Obj} {h3 : Heap} (P : SPost G cx.vis (w₀.set C (.fr q)) s env w1 ρ' σ' s1) (hn : w₀.m C = none) (k : Heap.SameBut C s1.heap h3) : SPost G cx.vis w₀ s env (w1.del C) ρ' σ' { s1 with heap := h3 } := by
  have hC := P.le.m _ _ (Wd.set_at (w := w₀) (a := C) (x := .fr q))
  have ne : ∀ {a}, (w₀.set C (.fr q)).m a = none → a ≠ C := fun e z => by rw [z, Wd.set_at] at e; cases e
  have fr : ∀ a o, owns env a → w1.m a = some (.fr o) → (w1.del C).m a = some (.fr o) := fun a o z e => (Wd.del_ne (ne (z.elim (fun z => z ▸ P.M.out) fun ⟨x, z⟩ => P.M.cout x a z))).trans e
  have out : ∀ {a}, (w₀.set C (.fr q)).m a = none → w₀.m a = none := fun e => (Wd.set_ne (ne e)).symm.trans e
  exact ⟨P.hs.trans (.of _ _ s1.toks), ⟨fun a x e => (Wd.del_ne fun z => by rw [z, hn] at e; cases e).trans (P.le.m _ _ ((Wd.set_ne fun z => by rw [z, hn] at e; cases e).trans e)), P.le.φ⟩, P.S.del hC fr_nofix (Wd.unheld_fr hC) fun b o hb e => (k.2 b hb).trans e, P.F.swap (sub_del hC) fr, P.M.frm, out P.M.out, fun x a e => out (P.M.cout x a e), P.M.cells' fr, P.M.inj⟩
noncomputable def PtS.used (Y : PtS G n cx) {C : Addr} {q : Obj} (P : Post G Y.w Y.s w1 σ' s1) (hC : w1.m C = some (.fr q)) (hn : Y.w.m C = none) : PtS G n cx :=
  have ne : ∀ {a}, (∃ o, Y.w.m a = some (.fr o)) → a ≠ C := fun ⟨o, e⟩ z => by rw [z, hn] at e; cases e
  have h0 : Y.w₀.m C = none := none_le Y.le hn
  ⟨Y.hd, Y.dr, Y.w₀.set C (.fr q), w1, Y.ρ, σ', Y.env, Y.envs, Y.A, s1, Y.B.mono (Wd.le_set h0).sub, ⟨fun a x e => by
    by_cases z : a = C
    · subst z; rw [Wd.set_at] at e; cases e; exact hC
    · rw [Wd.set_ne z] at e; exact P.hw.m _ _ (Y.le.m _ _ e), Y.le.φ.trans P.hw.φ⟩, P.S, Y.F.mono P.hw,
    ⟨Y.M.frm, (Wd.set_ne (ne (let ⟨o, _, e, _⟩ := Y.F.ns; ⟨o, e⟩))).trans Y.M.out, fun x a e => (Wd.set_ne (ne (let ⟨o, _, p, _⟩ := Y.M.cells x a e; ⟨o, p⟩))).trans (Y.M.cout x a e), (Y.M.mono P.hw).cells, Y.M.inj⟩, Y.hn, Y.hA.mono fun _ _ e => (Wd.le_set h0).m _ _ e, Y.fr⟩
theorem sim_assignC {mt : Bool} {ee ie : Expr} {elt it cond : E} {k kt : Nat} {x y : Str} {px py cpos : Pos} {ifs : List Expr} {scope : Scope} (hvis : VisOK cx.vis) (hy : cx.vis.lookup y = some kt) (hl : cx.scope.names.lookup y = some .local ∨ cx.scope.names.lookup y = some .cell) (hset : notSetE ie = true) (H : CompOK cx scope x k) (hi : Sim G n cx it ie) (hce : Sim G n (cx.inner scope x k) elt ee)
    (hcc : (ifs = [] ∧ cond = .cBool true) ∨ ∃ e, ifs = [e] ∧ Sim G n (cx.inner scope x k) cond e) : SimS G n cx (.assign kt (.comp mt elt k it cond)) (.Assign [.Name y py] (.ListComp ee [⟨.Name x px, ie, ifs, 0⟩] scope cpos) pos) := fun Y fl ρ' σ' hev => by
  have hsw : ∃ b, swapsWith (.ListComp ee [⟨.Name x px, ie, ifs, 0⟩] scope cpos) (some (.Name y py)) pos.line Y.env = pure b := ⟨_, rfl⟩
  obtain ⟨b, hb⟩ := hsw
  cases b with
  | false => exact assign_at Y hvis hy hl hb (sim_comp hset H hi hce hcc) hev
  | true =>
    rw [exec_Assign_Name_used _ _ _ _ hb]
    refine wpAny_bind (wpAny_standAt (wpAny_bind (wpAny_bind ?_)))
    have hh : Y.hd = false := by
      cases z : Y.hd with
      | false => rfl
      | true => unfold PtS.exec at hev; rw [z] at hev; exact no hev
    refine wpAny_comprehension_free (use := some (assign (.Name y py) Y.env)) rfl (folded_plain hset) (closureFor_is fun z hz hf => Y.hn.cells z.1 (H.free z hz hf)) H.kind H.names ?_
    have hev : bindE (bindM (Y.pt.ev it) (fun itv σ => onO (itemsOf σ itv) fun items => onO (okM (compL (fun v σ => ev G.P (run G.P n) false cond (upd Y.ρ k v) σ) (fun v σ => ev G.P (run G.P n) false elt (upd Y.ρ k v) σ) items (lockV σ itv))) fun r => mkL mt r.1 (unlockV σ itv r.2))) Y.ρ (fun v σ => some (.next, upd Y.ρ kt v, σ)) = some (fl, ρ', σ') := by
      rw [show Y.pt.ev it = ev G.P (run G.P n) false it Y.ρ Y.σ from congrArg (fun h => ev G.P (run G.P n) h it Y.ρ Y.σ) hh]; unfold PtS.exec at hev; rw [hh] at hev; exact hev
    rw [bindE_bindM] at hev
    refine hi.bindS Y (.refl _) hev fun itv xv w₁ σ₁ s₁ p hx hk => ?_
    rw [bindE_onO] at hk
    obtain ⟨items, hitems, hk⟩ := onO_inv hk
    rw [bindE_onO] at hk
    obtain ⟨rs, hc, hk⟩ := onO_inv hk
    obtain ⟨a, σ2, hm, hk⟩ := bindE_mkL hk
    cases hk
    refine iter_sound (hd := false) (tgt := .Name x px) (items := items) p.S (fun _ => Y.hA.handled hh) hx hitems trivial fun ob fp T w' l itr st0 hkept hfr => ?_
    refine comp_start (X := (Y.to p).pt) H hh hce hcc l itr st0 hkept hfr (items_lim p.S hx hitems) hc hm fun D C a' w3 q s2 e1 P hv hC ⟨m, hN⟩ hn => ?_
    cases e1
    exact wpAny_assign_Name (wpAny_mono (store_name ((Y.to p).used P hC hn) hvis hy hl hv) (fun _ s3 ⟨w4, q4, _⟩ => by
      obtain ⟨_, sl, hat⟩ := q4.S.m _ _ (q4.le.m _ _ Wd.set_at)
      exact ⟨m, (hN.slots sl).ns hat, fun h3 hs3 => wpAny_pure (wpAny_pure ⟨rfl, _, ((q4.mono P.hs).mono p.hs).drop (none_le Y.le (none_le p.hw hn)) hs3⟩)⟩) fun _ _ z => z)
end
end Lw
namespace Lw
open PySem PySem.W PySem.Calls PyProof.Rows
theorem mapO_len {α β : Type} {g : α → Option β} : ∀ {l : List α} {ys : List β}, mapO g l = some ys → l.length = ys.length
  | [], _, h => by cases h; rfl
  | a :: r, ys, h => by
    obtain ⟨b, _, h⟩ := onO_inv h
    obtain ⟨bs, h2, h⟩ := onO_inv h
    cases h
    exact congrArg (· + 1) (mapO_len h2)
theorem mapO_some {α β : Type} {g : α → Option β} : ∀ {l : List α} {ys : List β}, mapO g l = some ys → ∀ a ∈ l, ∃ b, g a = some b
  | [], _, _, a, h => nomatch h
  | b :: r, ys, h, a, ha => by
    obtain ⟨x, h1, h⟩ := onO_inv h
    obtain ⟨bs, h2, h⟩ := onO_inv h
    rcases List.mem_cons.mp ha with rfl | ha
    · exact ⟨x, h1⟩
    · exact mapO_some h2 a ha
theorem fm_zip {f : Str → Option Value} {g : Str × Nat → Option Value} : ∀ (names : List Str) (k : Nat) (ys : List Value), (∀ p ∈ names.zipIdx k, f p.1 = g p) → mapO g (names.zipIdx k) = some ys → names.filterMap (fun n => (f n).map (n, ·)) = names.zip ys
  | [], k, ys, _, h => by cases h; rfl
  | n :: r, k, ys, he, h => by
    obtain ⟨b, h1, h⟩ := onO_inv h
    obtain ⟨bs, h2, h⟩ := onO_inv h
    cases h
    have e : f n = some b := (he (n, k) (List.mem_cons_self ..)).trans h1
    rw [List.filterMap_cons, e]
    exact congrArg (List.cons _) (fm_zip r (k + 1) bs (fun p hp => he p (List.mem_cons_of_mem _ hp)) h2)
theorem lk_cons {κ α : Type} [DecidableEq κ] {k x : κ} {v : α} {r : List (κ × α)} (h : k ≠ x) : lk ((k, v) :: r) x = lk r x := by
  unfold lk; rw [List.find?_cons_of_neg (by simpa using h)]
theorem lk_self {κ α : Type} [DecidableEq κ] {k : κ} {v : α} {r : List (κ × α)} : lk ((k, v) :: r) k = some v := by
  unfold lk; rw [List.find?_cons_of_pos (by simp)]; rfl
theorem lk_lookup {α : Type} (kw : List (Str × α)) (n : Str) : kw.lookup n = lk kw n := by
  induction kw with
  | nil => rfl
  | cons p r ih =>
    obtain ⟨x, y⟩ := p
    by_cases q : n = x
    · subst q; rw [look_self, lk_self]
    · rw [look_cons q, lk_cons (Ne.symm q), ih]
theorem zip_lookup {α : Type} : ∀ {names : List Str} {xs : List α} {j : Nat} {n : Str}, names.Nodup → names[j]? = some n → (names.zip xs).lookup n = xs[j]?
  | [], _, _, _, _, h => no h
  | m :: r, [], j, n, _, _ => rfl
  | m :: r, x :: xs, 0, n, _, h => by cases h; exact look_self
  | m :: r, x :: xs, j + 1, n, hnd, h => by
    have h : r[j]? = some n := h
    have ne : n ≠ m := fun e => (List.nodup_cons.mp hnd).1 (e ▸ List.mem_of_getElem? h)
    exact (look_cons ne).trans (zip_lookup (List.nodup_cons.mp hnd).2 h)
theorem zip_lookup_none {α : Type} : ∀ {names : List Str} {xs : List α} {n : Str}, n ∉ names → (names.zip xs).lookup n = none
  | [], _, _, _ => rfl
  | m :: r, [], n, _ => rfl
  | m :: r, x :: xs, n, h => have ne : n ≠ m := fun e => h (e ▸ List.mem_cons_self ..); (look_cons ne).trans (zip_lookup_none fun e => h (List.mem_cons_of_mem _ e))
theorem dfls_at {α : Type} {m j : Nat} {ds : List α} : ((dfls m ds)[j]?).join = if j < m - ds.length then none else ds[j - (m - ds.length)]? := by
  unfold dfls
  split
  · rename_i q
    rw [List.getElem?_append_left (by rw [List.length_replicate]; exact q), List.getElem?_replicate, if_pos q]; rfl
  · rename_i q
    rw [List.getElem?_append_right (by rw [List.length_replicate]; exact Nat.not_lt.mp q), List.length_replicate, List.getElem?_map]
    cases ds[j - (m - ds.length)]? <;> rfl
theorem nodup_at {l : List Str} {i j : Nat} {n : Str} (h : l.Nodup) (hi : l[i]? = some n) (hj : l[j]? = some n) : i = j := by
  obtain ⟨hi, ei⟩ := List.getElem?_eq_some_iff.mp hi
  obtain ⟨hj, ej⟩ := List.getElem?_eq_some_iff.mp hj
  rcases Nat.lt_trichotomy i j with q | q | q
  · exact absurd (ei.trans ej.symm) (List.pairwise_iff_getElem.mp h i j hi hj q)
  · exact q
  · exact absurd (ej.trans ei.symm) (List.pairwise_iff_getElem.mp h j i hj hi q)
theorem dfl_lookup {names : List Str} {ds : List Value} {j : Nat} {n : Str} (hnd : names.Nodup) (hj : names[j]? = some n) : ((names.drop (names.length - ds.length)).zip ds).lookup n = ((dfls names.length ds)[j]?).join := by
  rw [dfls_at]
  split
  · rename_i q
    refine zip_lookup_none fun hm => ?_
    obtain ⟨i, hi⟩ := List.mem_iff_getElem?.mp hm
    rw [List.getElem?_drop] at hi
    have := nodup_at hnd hj hi
    omega
  · rename_i q
    exact zip_lookup (hnd.sublist (List.drop_sublist _ _)) (by rw [List.getElem?_drop, show names.length - ds.length + (j - (names.length - ds.length)) = j by omega]; exact hj)
structure Bnd (names : List Str) (xs : List Value) (kw : List (Str × Value)) (ds ys : List Value) : Prop where
  nd : names.Nodup
  dl : ds.length ≤ names.length
  kn : ∀ p ∈ kw, p.1 ∈ names.drop xs.length
  knd : (kw.map (·.1)).Nodup
  b : bindP names xs kw (dfls names.length ds) = some ys
section
variable {names : List Str} {xs ds ys : List Value} {kw : List (Str × Value)} (B : Bnd names xs kw ds ys)
include B
theorem Bnd.len : xs.length ≤ names.length := (if_inv B.b).1
theorem Bnd.zipn {k : Str} {v : Value} (h : (k, v) ∈ kw) : (names.zip xs).lookup k = none := by
  obtain ⟨j, hj⟩ := List.mem_iff_getElem?.mp (B.kn _ h)
  rw [List.getElem?_drop] at hj
  rw [zip_lookup B.nd hj]
  exact List.getElem?_eq_none (Nat.le_add_right _ _)
theorem Bnd.once {k : Str} {v : Value} {done rest : List (Str × Value)} (h : kw = done ++ (k, v) :: rest) : ((names.zip xs ++ done).lookup k).isSome = false := by
  rw [List.lookup_append, B.zipn (by rw [h]; exact List.mem_append_right _ (List.mem_cons_self ..))]
  cases q : done.lookup k with
  | none => rfl
  | some y =>
    have := B.knd
    rw [h, List.map_append, List.map_cons] at this
    exact absurd rfl ((List.nodup_append.mp this).2.2 k (List.mem_map.mpr ⟨_, mem_lookup q, rfl⟩) k (List.mem_cons_self ..))
theorem Bnd.at_ {n : Str} {j : Nat} (hj : names[j]? = some n) : ((names.zip xs ++ kw).lookup n).or (((names.drop (names.length - ds.length)).zip ds).lookup n) = (xs[j]?).or ((lk kw n).or ((dfls names.length ds)[j]?).join) := by
  rw [List.lookup_append, zip_lookup B.nd hj, lk_lookup, Option.or_assoc, dfl_lookup B.nd hj]
theorem Bnd.zidx {n : Str} {j : Nat} (h : (n, j) ∈ names.zipIdx) : names[j]? = some n := by
  obtain ⟨_, h2, h3⟩ := List.mem_zipIdx h
  rw [h3]
  exact List.getElem?_eq_getElem _
theorem Bnd.miss : (names.take (names.length - ds.length)).filter (fun n => ((names.zip xs ++ kw).lookup n).isNone) = [] := by
  rw [List.filter_eq_nil_iff]
  intro n hn e
  obtain ⟨j, hj⟩ := List.mem_iff_getElem?.mp hn
  have hlt : j < names.length - ds.length := by
    have := (List.getElem?_eq_some_iff.mp hj).1
    rw [List.length_take] at this; omega
  rw [List.getElem?_take_of_lt hlt] at hj
  obtain ⟨b, hb⟩ := mapO_some (if_inv B.b).2 (n, j) (List.mem_iff_getElem?.mpr ⟨j, by rw [List.getElem?_zipIdx, hj, Nat.zero_add]; rfl⟩)
  have hb : (xs[j]?).or ((lk kw n).or ((dfls names.length ds)[j]?).join) = some b := hb
  rw [← B.at_ hj, Option.isNone_iff_eq_none.mp e, dfl_lookup B.nd hj, dfls_at, if_pos hlt] at hb
  cases hb
theorem Bnd.fin {b : List (Str × Value)} (h : ∀ n, b.lookup n = ((names.zip xs ++ kw).lookup n).or (((names.drop (names.length - ds.length)).zip ds).lookup n)) : names.filterMap (fun n => (b.lookup n).map (n, ·)) = names.zip ys :=
  fm_zip names 0 ys (fun p hp => (h p.1).trans (B.at_ (B.zidx hp))) (if_inv B.b).2
end
theorem or_some {α : Type} {a b : Option α} (h : ¬ a.isNone = true) : a.or b = a := by
  cases a with
  | none => exact absurd rfl h
  | some => rfl
theorem look_one {α : Type} {k n : Str} {v : α} : [(k, v)].lookup n = if n = k then some v else none := by
  split
  · rename_i e; subst e; exact look_self
  · rename_i e; exact look_cons e
theorem bindArgs_to {s : Shared} {fd : FuncData} {names : List Str} {xs ys ds : List Value} {kw : List (Str × Value)} (h1 : fd.params.posonlyargs = []) (h2 : fd.params.kwonlyargs = []) (h3 : fd.params.vararg = none) (h4 : fd.params.kwarg = none)
    (hnames : fd.params.args.map (·.arg) = names)
    (hdef : ∀ (M : Model) (A : Around) (E : Value → Shared → Prop) (Q : Option (Array Value) → Shared → Prop), (∀ r : Option (Array Value), (r.getD #[]).toList = ds → Q r s) → wpAny M A (seqItems? fd.defaults) Q E s)
    (B : Bnd names xs kw ds ys) : BindsTo s fd ⟨xs, kw⟩ (names.zip ys) := by
  intro M A E Q hQ
  unfold bindArgs
  simp only [h1, h2, h3, h4, List.map_nil, List.nil_append, List.append_nil, Option.isSome_none, Bool.false_eq_true, if_false, List.forIn_nil, Option.isNone_none, Bool.and_true, hnames]
  refine wpAny_bind (wpAny_forIn_list _ (fun (rest : List (Str × Value)) (b : List (Str × Value) × List (Str × Value)) s1 => s1 = s ∧ ∃ done, kw = done ++ rest ∧ b.1 = names.zip xs ++ done) _ ?_ ?_ kw _ ⟨rfl, [], rfl, (List.append_nil _).symm⟩)
  · rintro ⟨k, v⟩ rest ⟨b1, b2⟩ s1 ⟨rfl, done, hdone, hb1⟩
    have hb1 : b1 = names.zip xs ++ done := hb1
    subst hb1
    rw [if_pos (show (names.contains k || ([] : List Str).contains k) = true by rw [List.contains_iff_mem.mpr (List.mem_of_mem_drop (B.kn (k, v) (by rw [hdone]; exact List.mem_append_right _ (List.mem_cons_self ..))))]; rfl)]
    dsimp only
    rw [B.once hdone, if_neg Bool.false_ne_true]
    exact wpAny_pure ⟨rfl, done ++ [(k, v)], by rw [hdone, List.append_assoc]; rfl, List.append_assoc ..⟩
  rintro ⟨b1, b2⟩ s1 ⟨rfl, done, hdone, hb1⟩
  have hb1 : b1 = names.zip xs ++ done := hb1
  subst hb1
  rw [List.append_nil] at hdone
  subst hdone
  refine wpAny_bind (hdef M A E _ fun r hr => ?_)
  rw [hr, show ds.drop (ds.length - names.length) = ds by rw [Nat.sub_eq_zero_of_le B.dl]; rfl]
  simp only [decide_eq_false (Nat.not_lt.mpr B.len), Bool.false_eq_true, if_false, B.miss, List.isEmpty_nil, Bool.not_true]
  refine wpAny_bind (wpAny_forIn_list _ (fun (rest : List (Str × Value)) (b : List (Str × Value)) s2 => s2 = s1 ∧ ∃ done, (names.drop (names.length - ds.length)).zip ds = done ++ rest ∧ ∀ n, b.lookup n = ((names.zip xs ++ kw).lookup n).or (done.lookup n)) _ ?_ ?_ _ _ ⟨rfl, [], rfl, fun _ => (Option.or_none ..).symm⟩)
  · rintro ⟨k, v⟩ rest b s2 ⟨rfl, done, hdone, hb2⟩
    dsimp only
    by_cases q : (b.lookup k).isNone = true
    · rw [if_pos q]
      exact wpAny_pure ⟨rfl, done ++ [(k, v)], by rw [hdone, List.append_assoc]; rfl, fun n => by rw [List.lookup_append, List.lookup_append (l₁ := done), hb2 n, Option.or_assoc]⟩
    · rw [if_neg q]
      refine wpAny_pure ⟨rfl, done ++ [(k, v)], by rw [hdone, List.append_assoc]; rfl, fun n => ?_⟩
      rw [List.lookup_append (l₁ := done), ← Option.or_assoc, ← hb2 n, look_one]
      split
      · rename_i z; subst z; exact (or_some q).symm
      · exact (Option.or_none ..).symm
  rintro b s2 ⟨rfl, done, hdone, hb2⟩
  rw [List.append_nil] at hdone
  subst hdone
  exact wpAny_pure (by rw [B.fin hb2]; exact hQ)
theorem lk_map {α : Type} {kn : List String} {kvs : List α} {p : String} : lk ((kn.map Str.ofString).zip kvs) (Str.ofString p) = lk (kn.zip kvs) p := by
  induction kn generalizing kvs with
  | nil => rfl
  | cons k r ih =>
    cases kvs with
    | nil => rfl
    | cons v vs =>
      by_cases q : k = p
      · subst q; exact lk_self.trans lk_self.symm
      · exact (lk_cons fun e => q (ofString_inj e)).trans (ih.trans (lk_cons q).symm)
section
variable {G : Gl} {w : Wd}
inductive VRo (G : Gl) (w : Wd) : Option V → Option Value → Prop
  | none : VRo G w none none
  | some {v : V} {x : Value} : VR G w v x → VRo G w (some v) (some x)
theorem VRo.or {a b : Option V} {x y : Option Value} (h : VRo G w a x) (k : VRo G w b y) : VRo G w (a.or b) (x.or y) := by
  cases h with
  | none => exact k
  | some h => exact .some h
theorem VRo.of {v : V} {x : Option Value} (h : VRo G w (Option.some v) x) : ∃ y, x = Option.some y ∧ VR G w v y := by cases h with | some h => exact ⟨_, rfl, h⟩
theorem VRs.opt {vs : List V} {xs : List Value} (h : VRs G w vs xs) : ∀ j : Nat, VRo G w vs[j]? xs[j]? := by
  induction h with
  | nil => intro j; exact .none
  | cons a _ ih => intro j; cases j with
    | zero => exact .some a
    | succ j => exact ih j
theorem zip_opt {p : String} {kvs : List V} {ys : List Value} (h : VRs G w kvs ys) : ∀ kn : List String, VRo G w (lk (kn.zip kvs) p) (lk (kn.zip ys) p) := by
  induction h with
  | nil => intro kn; rw [List.zip_nil_right, List.zip_nil_right]; exact .none
  | cons a _ ih =>
    intro kn
    cases kn with
    | nil => exact .none
    | cons k r =>
      rw [List.zip_cons_cons, List.zip_cons_cons]
      by_cases q : k = p
      · subst q; rw [lk_self, lk_self]; exact .some a
      · rw [lk_cons q, lk_cons q]; exact ih r
theorem dfls_opt {ds : List V} {xs : List Value} (h : VRs G w ds xs) (m j : Nat) : VRo G w ((dfls m ds)[j]?).join ((dfls m xs)[j]?).join := by
  rw [dfls_at, dfls_at, ← All2.length h]
  split
  · exact .none
  · exact VRs.opt h _
theorem bindP_sound {ps : List String} {args kvs ds vs : List V} {kn : List String} {xs ys dv : List Value} (ha : VRs G w args xs) (hk : VRs G w kvs ys) (hd : VRs G w ds dv) (hb : bindP ps args (kn.zip kvs) (dfls ps.length ds) = some vs) :
    ∃ zs, bindP (ps.map Str.ofString) xs ((kn.map Str.ofString).zip ys) (dfls (ps.map Str.ofString).length dv) = some zs ∧ VRs G w vs zs := by
  obtain ⟨hl, hb⟩ := if_inv hb
  have key : ∀ (qs : List String) (k : Nat) (us : List V), mapO (fun pj : String × Nat => (args[pj.2]?).or ((lk (kn.zip kvs) pj.1).or (((dfls ps.length ds)[pj.2]?).join))) (qs.zipIdx k) = some us →
      ∃ zs, mapO (fun pj : Str × Nat => (xs[pj.2]?).or ((lk ((kn.map Str.ofString).zip ys) pj.1).or (((dfls ps.length dv)[pj.2]?).join))) ((qs.map Str.ofString).zipIdx k) = some zs ∧ VRs G w us zs := by
    intro qs
    induction qs with
    | nil => intro k us h; cases h; exact ⟨[], rfl, .nil⟩
    | cons q r ih =>
      intro k us h
      obtain ⟨b, h1, h⟩ := onO_inv h
      obtain ⟨bs, h2, h⟩ := onO_inv h
      cases h
      obtain ⟨zs, e1, e2⟩ := ih (k + 1) bs h2
      have hv := (VRs.opt ha k).or ((zip_opt (p := q) hk kn).or (dfls_opt hd ps.length k))
      rw [show (args[k]?).or ((lk (kn.zip kvs) q).or (((dfls ps.length ds)[k]?).join)) = some b from h1] at hv
      obtain ⟨y, e3, e4⟩ := hv.of
      refine ⟨y :: zs, ?_, .cons e4 e2⟩
      show onO ((xs[k]?).or ((lk ((kn.map Str.ofString).zip ys) (Str.ofString q)).or (((dfls ps.length dv)[k]?).join))) (fun b => onO (mapO _ ((r.map Str.ofString).zipIdx (k + 1))) fun bs => some (b :: bs)) = _
      rw [lk_map, e3, e1]; rfl
  obtain ⟨zs, e1, e2⟩ := key ps 0 vs hb
  unfold bindP
  rw [List.length_map]
  exact ⟨zs, (if_pos (All2.length ha ▸ hl)).trans e1, e2⟩
theorem zip_fst {kvs : List V} {ys : List Value} (h : VRs G w kvs ys) : ∀ kn : List String, ((kn.map Str.ofString).zip ys).map (·.1) = ((kn.zip kvs).map (·.1)).map Str.ofString := by
  induction h with
  | nil => intro kn; rw [List.zip_nil_right, List.zip_nil_right]; rfl
  | cons _ _ ih => intro kn; cases kn with
    | nil => rfl
    | cons k r => exact congrArg (List.cons _) (ih r)
theorem nodup_str {l : List String} (h : l.Nodup) : (l.map Str.ofString).Nodup := h.map _ fun _ _ hab e => hab (ofString_inj e)
theorem binds_of {fn : Fn} {args kvs vs : List V} {kn : List String} {xs ys dv : List Value} (hn : fn.params.Nodup) (hdl : fn.defaults.length ≤ fn.params.length) (ha : VRs G w args xs) (hk : VRs G w kvs ys) (hd : VRs G w fn.defaults dv) (hkw : kwOk fn args (kn.zip kvs) = true) (hb : bindP fn.params args (kn.zip kvs) fn.dflts = some vs) :
    ∃ zs, Bnd (fn.params.map Str.ofString) xs ((kn.map Str.ofString).zip ys) dv zs ∧ VRs G w vs zs := by
  obtain ⟨zs, e1, e2⟩ := bindP_sound ha hk hd hb
  obtain ⟨k1, k2⟩ := Bool.and_eq_true_iff.mp hkw
  refine ⟨zs, ⟨nodup_str hn, by rw [← All2.length hd, List.length_map]; exact hdl, fun p hp => ?_, by rw [zip_fst hk]; exact nodup_str (of_decide_eq_true k2), e1⟩, e2⟩
  have hm : p.1 ∈ ((kn.map Str.ofString).zip ys).map (·.1) := List.mem_map.mpr ⟨p, hp, rfl⟩
  rw [zip_fst hk] at hm
  obtain ⟨q, hq, e⟩ := List.mem_map.mp hm
  obtain ⟨z, hz, rfl⟩ := List.mem_map.mp hq
  rw [← e, ← List.map_drop, ← All2.length ha]
  exact List.mem_map.mpr ⟨_, List.contains_iff_mem.mp (List.all_eq_true.mp k1 z hz), rfl⟩
end
end Lw
namespace Lw
open PySem PySem.W PySem.Calls PyProof.Rows
section
variable {kindOf : Str → Option NameKind} {m : Str → Option Value} {x : Str}
theorem bindL_look : ∀ {names : List Str} {ys : List Value} {m : Str → Option Value}, names.Nodup → kindOf x = some .local → bindL kindOf (names.zip ys) m x = ((names.zip ys).lookup x).or (m x)
  | [], _, m, _, _ => rfl
  | n :: r, [], m, _, _ => rfl
  | n :: r, y :: ys, m, hnd, hk => by
    rw [List.zip_cons_cons, bindL, bindL_look (List.nodup_cons.mp hnd).2 hk]
    by_cases q : x = n
    · subst q; rw [zip_lookup_none (List.nodup_cons.mp hnd).1, look_self]; simp [hk]
    · rw [look_cons q]; by_cases hk : kindOf n = some .local <;> simp [hk, q]
theorem bindC_look : ∀ {names : List Str} {ys : List Value} {m : Str → Option Value}, names.Nodup → kindOf x ≠ some .local → bindC kindOf (names.zip ys) m x = ((names.zip ys).lookup x).or (m x)
  | [], _, m, _, _ => rfl
  | n :: r, [], m, _, _ => rfl
  | n :: r, y :: ys, m, hnd, hk => by
    rw [List.zip_cons_cons, bindC, bindC_look (List.nodup_cons.mp hnd).2 hk]
    by_cases q : x = n
    · subst q; rw [zip_lookup_none (List.nodup_cons.mp hnd).1, look_self]; simp [hk]
    · rw [look_cons q]; by_cases hk : kindOf n = some .local <;> simp [hk, q]
theorem cellsFrom_keep : ∀ (names : List (Str × NameKind)) (k : Nat) (acc : List (Str × Addr)), (∃ a, acc.lookup x = some a) → ∃ a, (cellsFrom k names acc).lookup x = some a
  | [], _, _, h => h
  | (n, kd) :: r, k, acc, h => by
    unfold cellsFrom
    split
    · refine cellsFrom_keep r _ _ ?_
      by_cases q : x = n
      · subst q; exact ⟨_, look_self⟩
      · rw [look_cons q]; exact h
    · exact cellsFrom_keep r k acc h
theorem cellsFrom_has : ∀ (names : List (Str × NameKind)) (k : Nat) (acc : List (Str × Addr)), names.lookup x = some .cell → ∃ a, (cellsFrom k names acc).lookup x = some a
  | [], _, _, h => no h
  | (n, kd) :: r, k, acc, h => by
    unfold cellsFrom
    by_cases q : x = n
    · subst q
      rw [look_self] at h
      cases h
      exact cellsFrom_keep r _ _ ⟨_, look_self⟩
    · rw [look_cons q] at h
      split <;> exact cellsFrom_has r _ _ h
end
structure AOC (A : Around) (n : Nat) (hd : Bool) (w : Wd) (envs : List Env) : Prop where
  handled : hd = false → A.handled = none
  depth : A.depth + 4 * n + 2 < 1000
  units : A.units + 100 * n + 150 < 9900
  frs : ∀ env ∈ envs, env.scope.kind = .function ∧ ∃ L o, env.frame = some L ∧ w.m L = some (.fr o)
structure PtC (G : Gl) (n : Nat) where
  hd : Bool
  w : Wd
  σ : St
  envs : List Env
  A : Around
  s : Shared
  B : Base G w
  S : SR G w σ s.heap
  hA : AOC A n hd w envs
  fr : A.frames = some envs
noncomputable def RC (G : Gl) (w : Wd) (s : Shared) (envs : List Env) (r : Res V) (σ' : St) : Result → Shared → Prop
  | .ok (.ret v), s' => QV G (VR G) w s r σ' v s'
  | .ok _, _ => False
  | .error e, s' => QX G w s envs r σ' e s'
noncomputable def SimC (G : Gl) (n : Nat) (cc m : String) (a : Addr) : Prop := ∀ (Z : PtC G n) (args kvs : List V) (kn : List String) (xs ys : List Value) (r : Res V) (σ' : St), run G.P n Z.hd cc m args (kn.zip kvs) Z.σ = some (r, σ') → VRs G Z.w args xs → VRs G Z.w kvs ys →
  codeAny G.M Z.A (.call (.ref a) ⟨xs, (kn.map Str.ofString).zip ys⟩) (RC G Z.w Z.s Z.envs r σ') Z.s
noncomputable def Pt.toC {G : Gl} {n : Nat} {cx : Cxt} (X : Pt G n cx) : PtC G n := ⟨X.hd, X.w, X.σ, X.envs, X.A, X.s, X.B, X.S, ⟨X.hA.handled, Nat.lt_of_le_of_lt (Nat.add_le_add_left (by decide) _) X.hA.depth, Nat.lt_of_le_of_lt (Nat.add_le_add_left (by decide) _) X.hA.units, X.hA.frs⟩, X.fr⟩
structure FnFacts (G : Gl) (fn : Fn) (a : Addr) (fd : FuncData) (body : List Stmt) (cx : Cxt) : Prop where
  look : ∃ oc od sl, G.K.lookup a = some ⟨oc, od, .func fd, sl⟩
  body : fd.body = .stmts body
  code : codeIn G.K fd.code fd.qualname = true
  kind : fd.scope.kind = .function
  coro : fd.scope.isCoroutine = false
  gen : fd.scope.isGenerator = false
  clos : fd.closure = []
  glob : fd.globals = mainGlobals
  bi : fd.builtins = builtinsNs
  p1 : fd.params.posonlyargs = []
  p2 : fd.params.kwonlyargs = []
  p3 : fd.params.vararg = none
  p4 : fd.params.kwarg = none
  names : fd.params.args.map (·.arg) = fn.params.map Str.ofString
  nodup : fn.params.Nodup
  dlen : fn.defaults.length ≤ fn.params.length
  dfl : (fd.defaults = .none ∧ fn.defaults = []) ∨ ∃ T o its k, fd.defaults = .ref T ∧ G.K.lookup T = some o ∧ o.data = .seq its k ∧ ∀ w, VRs G w fn.defaults its.toList
  scope : cx.scope = fd.scope
  cls : cx.cls = G.com.cls
  attrs : cx.attrs = G.com.attrs
  pars : ∀ j p, fn.params[j]? = some p → cx.vis.lookup (Str.ofString p) = some j
  vis : VisOK cx.vis
  kinds : ∀ p ∈ fn.params, fd.scope.names.lookup (Str.ofString p) = some .local ∨ fd.scope.names.lookup (Str.ofString p) = some .cell
section
variable {G : Gl} {n : Nat} {cx : Cxt} {w w' w₀ : Wd} {s s' s₀ s₁ : Shared} {σ σ' : St} {ρ ρ' : Rho} {env : Env} {envs : List Env} {fn : Fn} {a : Addr} {fd : FuncData} {body : List Stmt} {h h' : Heap}
theorem get_above (e : h.objs.size ≤ a) : h.get? a = none := by
  cases q : h.get? a with
  | none => rfl
  | some o => exact absurd (Heap.lt_size q) (Nat.not_lt.mpr e)
noncomputable def Wd.frame (w : Wd) (h : Heap) (env : Env) : Wd := { w with m := fun a => open Classical in if owns env a then (h.get? a).map .fr else w.m a }
theorem Wd.frame_own {o : Obj} (q : owns env a) (e : h.get? a = some o) : (w.frame h env).m a = some (.fr o) := (if_pos q).trans (congrArg (Option.map _) e)
theorem Wd.frame_ne (q : ¬ owns env a) : (w.frame h env).m a = w.m a := if_neg q
theorem SR.frame (S : SR G w σ h) (hn : ∀ a, owns env a → h.get? a = none) (hf : ∀ a, owns env a → ∃ o, h'.get? a = some o ∧ ∀ vs, o.data ≠ .fields vs) (k : ∀ b o, h.get? b = some o → h'.get? b = some o) : SR G (w.frame h' env) σ h' ∧ w.Le (w.frame h' env) := by
  have ne : ∀ {a x}, w.m a = some x → ¬ owns env a := fun e q => by rw [S.fresh (hn _ q)] at e; cases e
  have le : w.Le (w.frame h' env) := ⟨fun a x e => (Wd.frame_ne (ne e)).trans e, List.prefix_refl _⟩
  refine ⟨⟨fun b o e => ?_, S.n, fun i o e => ?_⟩, le⟩
  · by_cases q : owns env b
    · obtain ⟨y, e1, e2⟩ := hf b q
      rw [Wd.frame_own q e1] at e; cases e
      exact ⟨e2, y.slots, e1⟩
    · rw [Wd.frame_ne q] at e; exact (S.m b o e).keep fun _ z => k _ _ z
  · obtain ⟨p, z, r⟩ := S.obj i o e
    obtain ⟨⟨_, _, m1⟩, _, _, m2⟩ := r.held
    exact ⟨p, z, r.keep le.sub (Wd.frame_ne (ne m1)) (Wd.frame_ne (ne m2)) fun b y _ => k b y⟩
theorem ObjNs.nofields {o : Obj} {m : Str → Option Value} (h : ObjNs o m) : ∀ vs, o.data ≠ .fields vs := let ⟨_, _, e, _⟩ := h; fun vs z => by rw [e] at z; cases z
theorem par_at {vs : List V} {zs : List Value} {y : Str} {k : Nat} {v : V} (H : FnFacts G fn a fd body cx) (hv : VRs G w vs zs) (hl : fn.params.length = zs.length) (e1 : cx.vis.lookup y = some k) (e2 : rhoOf vs k = some v) :
    ∃ p z, p ∈ fn.params ∧ y = Str.ofString p ∧ ((fn.params.map Str.ofString).zip zs).lookup y = some z ∧ VR G w v z := by
  obtain ⟨z, hz, hvz⟩ := All2.get hv e2
  have hk : k < fn.params.length := hl ▸ (List.getElem?_eq_some_iff.mp hz).1
  have hp : fn.params[k]? = some fn.params[k] := List.getElem?_eq_getElem hk
  have hy := H.vis y _ k e1 (H.pars k _ hp)
  exact ⟨_, z, List.mem_of_getElem? hp, hy, (zip_lookup (nodup_str H.nodup) (by rw [List.getElem?_map, hp, hy]; rfl)).trans hz, hvz⟩
theorem frame_made {vs : List V} {zs : List Value} {q : Str} {f : Option Addr} {cd : Value} (Z : PtC G (n + 1)) (H : FnFacts G fn a fd body cx) (hv : VRs G Z.w vs zs) (hlen : fn.params.length = zs.length)
    (he : env = newEnv fd.scope Z.s.heap.objs.size fd.globals (cellsFrom (Z.s.heap.objs.size + 1) fd.scope.names []) q f cd none fd.builtins)
    (x : InCallC Z.s env.locals (bindL env.kindOf ((fn.params.map Str.ofString).zip zs) fun _ => none) env.cells (bindC env.kindOf ((fn.params.map Str.ofString).zip zs) fun _ => none) s₁) :
    ∃ Y : PtS G n cx, (Y.hd = Z.hd ∧ Y.dr = true) ∧ Y.w₀ = Z.w ∧ Y.ρ = rhoOf vs ∧ Y.σ = Z.σ ∧ Y.env = env ∧ Y.envs = Z.envs ∧ Y.A = Z.A.deeper env ∧ Y.s = s₁ := by
  have hloc : env.locals = Z.s.heap.objs.size := by rw [he]; rfl
  have hsc : env.scope = fd.scope := by rw [he]; rfl
  have hcl : env.cells = cellsFrom (Z.s.heap.objs.size + 1) fd.scope.names [] := by rw [he]; rfl
  have hout : ∀ b, owns env b → Z.s.heap.get? b = none := fun b q => q.elim (fun e => by rw [e, hloc]; exact get_size _) fun ⟨m, e⟩ => get_above (Nat.le_of_lt (hloc ▸ x.above m b (mem_lookup e)))
  obtain ⟨o, ho, hN⟩ := ObjNs.of x.toInCall.ns
  obtain ⟨S, le⟩ := Z.S.frame hout (fun b q => q.elim (fun e => ⟨o, e ▸ ho, hN.nofields⟩) fun ⟨m, e⟩ => let ⟨ob, h1, h2⟩ := x.cell m b e; ⟨ob, h1, fun vs z => by rw [h2] at z; cases z⟩) x.toInCall.keep
  refine ⟨⟨Z.hd, true, Z.w, Z.w.frame s₁.heap env, rhoOf vs, Z.σ, env, Z.envs, Z.A.deeper env, s₁, Z.B, le, S, ⟨by rw [hsc]; exact H.kind, by rw [he]; exact H.glob, by rw [he]; exact H.bi, ⟨o, _, Wd.frame_own (.inl rfl) ho, hN, fun y k v e1 e2 e3 => ?_⟩, fun y k v e1 e2 e3 => ?_⟩, ⟨by rw [he]; rfl, Z.S.fresh (hout _ (.inl rfl)), fun y b e => Z.S.fresh (hout b (.inr ⟨y, e⟩)), fun y b e => ?_, fun y z b e1 e2 => name_of_addr x.apart (mem_lookup e1) (mem_lookup e2)⟩, ⟨by rw [hsc, H.scope], H.cls, H.attrs, fun y e => ?_⟩, ⟨Z.hA.handled, ?_, ?_, Z.hA.frs⟩, ?_⟩, ⟨rfl, rfl⟩, rfl, rfl, rfl, rfl, rfl, rfl, rfl⟩
  · obtain ⟨p, z, hp, rfl, hz, hvz⟩ := par_at H hv hlen e1 e3
    exact ⟨z, by rw [bindL_look (nodup_str H.nodup) e2, hz]; rfl, hvz.mono le.sub⟩
  · obtain ⟨p, z, hp, rfl, hz, hvz⟩ := par_at H hv hlen e1 e3
    rw [hsc] at e2
    have e2 : fd.scope.names.lookup (Str.ofString p) = some .cell := (H.kinds p hp).elim (fun q => by rw [q] at e2; rcases e2 with e2 | e2 <;> cases e2) id
    obtain ⟨b, hb⟩ := cellsFrom_has _ (Z.s.heap.objs.size + 1) [] e2
    rw [← hcl] at hb
    obtain ⟨ob, h1, h2⟩ := x.cell _ b hb
    refine ⟨b, ob, z, hb, Wd.frame_own (.inr ⟨_, hb⟩) h1, ?_, hvz.mono le.sub⟩
    rw [h2, bindC_look (nodup_str H.nodup) (fun q => by rw [show env.kindOf _ = fd.scope.names.lookup _ from congrArg (fun s : Scope => s.names.lookup _) hsc, e2] at q; cases q), hz]; rfl
  · obtain ⟨ob, h1, h2⟩ := x.cell y b e
    exact ⟨ob, _, Wd.frame_own (.inr ⟨_, e⟩) h1, h2⟩
  · rw [hcl]
    obtain ⟨b, hb⟩ := cellsFrom_has _ (Z.s.heap.objs.size + 1) [] (H.scope ▸ e)
    exact Option.isSome_iff_exists.mpr ⟨b, hb⟩
  · show Z.A.depth + 1 + 4 * n + 4 < 1000
    have := Z.hA.depth; omega
  · show Z.A.units + 3 + 100 * n + 200 < 9900
    have := Z.hA.units; omega
  · show Z.A.frames.map (env :: ·) = _
    rw [Z.fr]; rfl
theorem SR.fly {Bh : Heap} (S : SR G w σ h) (hB : ∀ b o y, w.m b = some o → (∀ z, o ≠ .fr z) → h.get? b = some y → Bh.get? b = some y) (hs : Bh.StaysIn h') (hu : h.UpToSlots h') : SR G w σ h' := by
  refine ⟨fun b o e => ?_, S.n, fun i o e => ?_⟩
  · have k := S.m b o e
    cases o with
    | fr o => obtain ⟨hd, sl, q⟩ := k; obtain ⟨sl', q'⟩ := hu _ _ q hd; exact ⟨hd, sl', q'⟩
    | _ => exact k.keep fun y q => hs _ _ (hB b _ y e (fun z q => nomatch q) q)
  · obtain ⟨p, z, r⟩ := S.obj i o e
    obtain ⟨⟨_, _, m1⟩, _, _, m2⟩ := r.held
    exact ⟨p, z, r.keep (Wd.Le.refl _).sub rfl rfl fun b y hb q => hs _ _ (hb.elim (fun e => hB b _ y (e ▸ m1) lkOwn_nofr q) fun e => hB b _ y (e ▸ m2) lkOwn_nofr q)⟩
theorem XP.leave {x : String} {e : Value} {A : Around} {Ex : Value → Shared → Prop} {R : Value → Shared → Prop} (hfr : A.frames = some (env :: envs)) (hf : env.frame = some env.locals) (q : XP G w s (env :: envs) x σ' e s') (hR : ∀ s'', XP G w s envs x σ' e s'' → R e s'') : wpAny G.M A (leaving env e) (fun _ s'' => R e s'') Ex s' := by
  obtain ⟨ea, C, a0, B, w₂, rfl, hC, p, hfl, hB⟩ := q
  refine wpAny_leaves_onW hfr hf hfl fun h' hfl' hup => hR _ ⟨ea, C, a0, B, w₂, rfl, hC, ⟨p.hs.trans (.of _ _ s'.toks), p.hw, p.S.fly hB hfl'.1 hup⟩, hfl', fun b o y e1 e2 e3 => ?_⟩
  obtain ⟨y0, e4⟩ := (p.S.m b o e1).some
  have e5 := hB b o y0 e1 e2 e4
  have e6 := hfl'.1 _ _ e5
  have e3 : h'.get? b = some y := e3
  rw [e6] at e3; cases e3; exact e5
theorem funs_of (hfrs : ∀ e ∈ envs, e.scope.kind = .function ∧ ∃ L o, e.frame = some L ∧ w.m L = some (.fr o)) (S : SR G w σ h) {as : List Addr} (hin : ∀ e ∈ envs, ∀ a, e.frame = some a → a ∈ as) : h.FunFrames (hideAll h as) envs := by
  induction envs with
  | nil => trivial
  | cons e r ih =>
    obtain ⟨hk, L, o, hf, hm⟩ := hfrs e (.head _)
    obtain ⟨hd, sl, q⟩ := S.m _ _ hm
    exact ⟨(fun z => by rw [hk] at z; cases z), ⟨L, _, hf, hideAll_none _ (hin e (.head _) L hf), q, hd⟩, ih (fun e he => hfrs e (.tail _ he)) fun e he => hin e (.tail _ he)⟩
theorem XM.leave {x : String} {e : Value} {A : Around} {Ex : Value → Shared → Prop} {R : Value → Shared → Prop} (hfr : A.frames = some (env :: envs)) (hf : env.frame = some env.locals)
    (hfrs : ∀ e ∈ env :: envs, e.scope.kind = .function ∧ ∃ L o, e.frame = some L ∧ w.m L = some (.fr o)) (q : XM G w s x σ' e s') (hR : ∀ s'', XP G w s envs x σ' e s'' → R e s'') : wpAny G.M A (leaving env e) (fun _ s'' => R e s'') Ex s' := by
  obtain ⟨ea, C, args, h, rfl, hC, hs, S, hx⟩ := q
  have hB : ∀ b o y, w.m b = some o → (∀ z, o ≠ .fr z) → h.get? b = some y → (hideAll h ((env :: envs).filterMap (·.frame))).get? b = some y := fun b o y e1 e2 e3 => hideAll_get _ e3 fun hm => by
    obtain ⟨e, he, hf⟩ := List.mem_filterMap.mp hm
    obtain ⟨_, L, o', hf', q⟩ := hfrs e he
    rw [hf] at hf'; cases hf'
    rw [e1] at q; exact e2 o' (Option.some.inj q)
  refine wpAny_leaves_madeW hfr hf (fun b o q => of_hideAll _ q) (funs_of hfrs S fun e he a ha => List.mem_filterMap.mpr ⟨e, he, ha⟩) hx fun h' t x1 _ _ x4 => hR _ ⟨ea, C, .ref t, _, w, rfl, hC, ⟨hs.trans (.of _ _ s'.toks), .refl _, S.fly hB x1.1 ((Heap.UpToSlots.of_keeps hx.keeps).trans x4)⟩, x1, fun b o y e1 e2 e3 => ?_⟩
  obtain ⟨y0, e4⟩ := (S.m b o e1).some
  have e5 := hB b o y0 e1 e2 e4
  have e6 := x1.1 _ _ e5
  have e3 : h'.get? b = some y := e3
  rw [e6] at e3; cases e3; exact e5
theorem defaults_at (H : FnFacts G fn a fd body cx) (X : G.K.In s.heap) : ∃ ds, (∀ w, VRs G w fn.defaults ds) ∧
    ∀ (M : Model) (A : Around) (E : Value → Shared → Prop) (Q : Option (Array Value) → Shared → Prop), (∀ r : Option (Array Value), (r.getD #[]).toList = ds → Q r s) → wpAny M A (seqItems? fd.defaults) Q E s := by
  rcases H.dfl with ⟨e1, e2⟩ | ⟨T, o, its, k, e1, e2, e3, e4⟩
  · refine ⟨[], fun w => by rw [e2]; exact .nil, fun M A E Q hQ => ?_⟩
    rw [e1]
    exact wpAny_pure (hQ none rfl)
  · refine ⟨its.toList, e4, fun M A E Q hQ => ?_⟩
    rw [e1]
    refine wpAny_bind (wpAny_loadPart (X _ _ e2) ?_)
    rw [e3]
    exact wpAny_pure (hQ (some its) rfl)
theorem fin_next {r : Res V} (h : fin (some (.next, ρ, σ)) = some (r, σ')) : r = .ok .none ∧ σ' = σ := by cases h; exact ⟨rfl, rfl⟩
theorem fin_ret {v : V} {r : Res V} (h : fin (some (.ret v, ρ, σ)) = some (r, σ')) : r = .ok v ∧ σ' = σ := by cases h; exact ⟨rfl, rfl⟩
theorem fin_exc {x : String} {r : Res V} (h : fin (some (.exc x, ρ, σ)) = some (r, σ')) : r = .exc x ∧ σ' = σ := by cases h; exact ⟨rfl, rfl⟩
theorem body_sound {r : Res V} (hb : SimSs G n cx fn.body body) (Y : PtS G n cx) (Z : PtC G (n + 1)) (hs : Same Z.s Y.s) (hA : Y.A = Z.A.deeper Y.env) (hw : Y.w₀ = Z.w) (hen : Y.envs = Z.envs) (hev : fin (Y.execs fn.body) = some (r, σ')) :
    codeAny G.M Z.A (.func body Y.env) (RC G Z.w Z.s Z.envs r σ') Y.s := by
  refine codeAny_func ?_
  rw [← hA, ← hw, ← hen]
  cases hx : Y.execs fn.body with
  | none => rw [hx] at hev; exact no hev
  | some q =>
    obtain ⟨fl, ρ₁, σ₁⟩ := q
    rw [hx] at hev
    refine wpAny_mono (hb Y fl ρ₁ σ₁ hx) (fun f s₂ q => ?_) fun e s₂ q => ?_
    · cases fl with
      | next =>
        obtain ⟨rfl, w₂, p⟩ := q
        obtain ⟨rfl, rfl⟩ := fin_next hev
        exact ⟨w₂, ⟨hs.trans p.hs, p.le, p.S⟩, .none⟩
      | ret v =>
        obtain ⟨y, w₂, rfl, p, hv⟩ := q
        obtain ⟨rfl, rfl⟩ := fin_ret hev
        exact ⟨w₂, ⟨hs.trans p.hs, p.le, p.S⟩, hv⟩
      | exc => exact q.elim
    · cases fl with
      | exc x =>
        obtain ⟨w₁, le, F, M, q⟩ := q
        obtain ⟨rfl, rfl⟩ := fin_exc hev
        rcases q with q | ⟨_, q⟩
        · exact (q.mono ⟨hs, le⟩).leave (R := fun e s'' => RC G Y.w₀ Z.s Y.envs (.exc x) σ' (.error e) s'') Y.fr M.frm fun s'' q => q
        · refine q.leave (R := fun e s'' => RC G Y.w₀ Z.s Y.envs (.exc x) σ' (.error e) s'') Y.fr M.frm (fun e he => ?_) fun s'' q => q.mono ⟨hs, le⟩
          exact (List.mem_cons.mp he).elim (fun q => q ▸ ⟨F.kind, let ⟨o, _, a, _⟩ := F.ns; ⟨_, o, M.frm, a⟩⟩) fun q => let ⟨a, L, o, x, y⟩ := Y.hA.frs e q; ⟨a, L, o, x, le.m _ _ y⟩
      | _ => exact q.elim
theorem simC_step {cc m : String} (hfn : G.P.fns cc m = some fn) (H : FnFacts G fn a fd body cx) (hb : SimSs G n cx fn.body body) : SimC G (n + 1) cc m a := by
  intro Z args kvs kn xs ys r σ' hev ha hk
  obtain ⟨fn', e, hev⟩ := onO_inv hev
  rw [hfn] at e; cases e
  obtain ⟨hkw, hev⟩ := if_inv hev
  obtain ⟨vs, hbp, hev⟩ := onO_inv hev
  obtain ⟨oc, od, sl, hlook⟩ := H.look
  have X := Z.B.kin Z.S
  obtain ⟨ds, hds, hdef⟩ := defaults_at H X
  obtain ⟨zs, hz, hvz⟩ := binds_of H.nodup H.dlen ha hk (hds Z.w) hkw hbp
  refine codeAny_call_function (Nat.lt_of_lt_of_le (Nat.lt_of_le_of_lt (Nat.le_trans (Nat.le_add_right _ _) (Nat.le_add_right _ _)) Z.hA.depth) (by decide)) (Z.S.at (Z.B.k _ _ hlook)) rfl H.coro H.gen H.body (codeRec_of X H.code) ?_
  refine bindArgs_to H.p1 H.p2 H.p3 H.p4 H.names hdef hz _ _ _ _ ?_
  rw [H.clos]
  refine wpAny_newFunctionEnv_cells H.kind (fun y hy => ?_) fun env he s₁ x => ?_
  · obtain ⟨p, hp, e⟩ := List.mem_map.mp (List.of_mem_zip hy).1
    rw [← e]
    exact (H.kinds p hp).imp id fun q => ⟨q, let ⟨_, e⟩ := cellsFrom_has _ _ [] q; Option.isSome_iff_exists.mpr ⟨_, e⟩⟩
  have hl : fn.params.length = zs.length := by rw [← mapO_len (if_inv hz.b).2, List.length_zipIdx, List.length_map]
  obtain ⟨Y, ⟨h1, h1'⟩, h2, h3, h4, rfl, h6, h7, rfl⟩ := frame_made Z H hvz hl he x
  exact ⟨(Y.B.mono Y.le.sub).lim Y.S, body_sound hb Y Z x.toInCall.same h7 h2 h6 (by unfold PtS.execs; rw [h1, h1', h3, h4]; exact hev)⟩
end
end Lw
namespace Lw
open PySem PySem.W PySem.Calls PyProof.Rows
section
variable {G : Gl} {n : Nat} {cx : Cxt} {w w' w₀ : Wd} {s s' s₀ s₁ : Shared} {σ σ' : St} {envs : List Env} {pos : Pos}
theorem RC.ex {A : Around} {f : Value} {xs : List Value} {kw : List (Str × Value)} {r : Res V} (A0 : Ahead w₀ s₀ w s) (h : codeAny G.M A (.call f ⟨xs, kw⟩) (RC G w s envs r σ') s) : wpAny G.M A (call f xs kw) (QV G (VR G) w₀ s₀ r σ') (QX G w₀ s₀ envs r σ') s :=
  wpAny_call (codeAny_mono h fun rr s' q => by
    rcases rr with e | (_ | _ | _ | v)
    · cases r with
      | ok => exact q
      | exc => exact XP.mono A0 q
    · exact q
    · exact q
    · exact q
    · exact A0.qv q)
theorem sim_fcall {f : String} {es : List E} {xs : List Expr} {p : Pos} {a : Addr} (hg : cx.isGlob (Str.ofString f) = true) (hname : nsIn G.K mainGlobals (Str.ofString f) = some (some (.ref a))) (hkeep : keepIn G.K (.ref a) = true)
    (hc : SimC G n "" f a) (ha : Sims G n cx es xs) : Sim G n cx (.fcall f es) (.Call (.Name (Str.ofString f) p) xs [] pos) := .of (fun X r σ' hev =>
  callName_sound (kn := []) (kes := []) (ks := []) (k := fun vs _ σ => run G.P n X.hd "" f vs [] σ) X (fun hQ => glob_name X hg hname hQ) (keeps_in hkeep) ha .nil hev fun vs us xv yv w₁ σ₁ s₁ p hv hu hk =>
    RC.ex p.ahead (hc (X.to p).toC vs [] [] xv [] r σ' hk hv .nil)) fun _ _ => rfl
noncomputable def MethAt (K : Frag) (cc m : String) (a : Addr) : Prop := ∃ C, clsAt K cc = some C ∧ findIn K (.ref C) (Str.ofString m) = some (some (.ref a)) ∧ typeIn K (.ref a) = some (.type "function") ∧ keepIn K (.ref a) = true
theorem methV_inv {o : V} {m cc : String} {P : Prog} (hm : methV P σ o m = some cc) : ∃ i fs, o = .ref i ∧ σ.get i = some (.inst cc fs) ∧ lk fs m = none ∧ ∃ fn, P.fns cc m = some fn := by
  obtain ⟨i, rfl, h⟩ := withRef_inv hm
  obtain ⟨ob, hg, h⟩ := onO_inv h
  cases ob with
  | inst c fs =>
    obtain ⟨hl, h⟩ := if_inv h
    cases h
    obtain ⟨h1, h2⟩ := Bool.and_eq_true_iff.mp hl
    exact ⟨i, fs, rfl, hg, Option.isNone_iff_eq_none.mp h1, Option.isSome_iff_exists.mp h2⟩
  | _ => exact no h
theorem sim_mcall {o : E} {m : String} {es kes : List E} {kn : List String} {oe : Expr} {xs : List Expr} {ks : List Keyword} {ap : Pos} (hsup : notSuper oe = true) (hpos : (ap.endLine == pos.line) = true) (hl : xs.length < 10) (hl2 : ks.length < 5)
    (hst : ∀ cc fn, cc ∈ G.com.cls → G.P.fns cc m = some fn → ∃ a, MethAt G.K cc m a ∧ SimC G n cc m a)
    (ho : Sim G n cx o oe) (ha : Sims G n cx es xs) (hks : SimKs G n cx kn kes ks) : Sim G n cx (.mcall o m es kn kes) (.Call (.Attribute oe (Str.ofString m) ap) xs ks pos) := .of (fun X r σ' hev =>
  wpAny_Call_Attr hsup hpos ha hks hl hl2 (ho.bind X .refl hev fun x xv w₁ σ₁ s₁ p hx hk pl => by
    obtain ⟨cc, hm, hk⟩ := onO_inv hk
    obtain ⟨i, fs, rfl, hg, hlk, fn, hfn⟩ := methV_inv hm
    obtain ⟨q, hq, rfl⟩ := hx.refv
    obtain ⟨C, des, k, I, hC, hcc, _, _⟩ := inst_of (X.to p).B p.S hq hg
    obtain ⟨a, ⟨C', hC', hf, ht, hkp⟩, hsim⟩ := hst cc fn hcc hfn
    rw [hC] at hC'; cases hC'
    refine method_fn ((X.to p).B.kin p.S) I.I I.ok.ga I.ok.gt hf ht ?_ ?_
    · unfold shadowIn
      dsimp only
      rw [(fs_look (k := k) I.fs m).2 hlk]; rfl
    · exact callWith_sound (first := [.ref q.1]) (k := fun vs us σ => run G.P n X.hd cc m (.ref i :: vs) (kn.zip us) σ) (keeps_in hkp) ha hks (X.to p) p.ahead hk fun vs us yv zv w₂ σ₂ s₂ p2 hv hu hk =>
        RC.ex (p.ahead.step p2) (hsim ((X.to p).to p2).toC (.ref i :: vs) us kn (.ref q.1 :: yv) zv r σ' hk (.cons (hx.mono p2.hw.sub) hv) hu))) fun _ _ => rfl
theorem clsAt_inv {K : Frag} {k : String} {C : Addr} (h : clsAt K k = some C) : nsIn K mainGlobals (Str.ofString k) = some (some (.ref C)) := by
  unfold clsAt at h
  split at h
  · rename_i b e; cases h; exact e
  · cases h
theorem SR.newInst {k : String} {C : Addr} (S : SR G w σ s.heap) (hk : k ∈ G.com.cls) (hC : clsAt G.K k = some C) :
    Post G w s (w.new (s.heap.objs.size + 1, s.heap.objs.size)) (σ.new (.inst k [])) { s with heap := (s.heap.push emptyDict).push (instObj C s.heap.objs.size) } ∧ VR G (w.new (s.heap.objs.size + 1, s.heap.objs.size)) (.ref σ.n) (.ref (s.heap.objs.size + 1)) := by
  have n1 : s.heap.get? (s.heap.objs.size + 1) = none := get_above (Nat.le_succ _)
  have n2 : s.heap.get? s.heap.objs.size = none := get_size _
  have e1 : ((s.heap.push emptyDict).push (instObj C s.heap.objs.size)).get? (s.heap.objs.size + 1) = some (instObj C s.heap.objs.size) := by
    have := Heap.get?_push_size (s.heap.push emptyDict) (o := instObj C s.heap.objs.size) rfl
    rwa [Heap.size_push] at this
  have e2 : ((s.heap.push emptyDict).push (instObj C s.heap.objs.size)).get? s.heap.objs.size = some emptyDict := Heap.get?_push_of_some _ (Heap.get?_push_size _ rfl)
  exact ⟨⟨.of _ _ s.toks, Wd.new_lt S n1 n2, S.alloc n1 n2 (fun b o e => Heap.get?_push_of_some _ (Heap.get?_push_of_some _ e)) ⟨_, e1⟩ ⟨_, e2⟩ ⟨Wd.new_2, C, [], 0, e1, Wd.new_1, e2, Nat.succ_ne_self _, hk, hC, .nil⟩⟩, S.refNew⟩
noncomputable def Pt.made (X : Pt G n cx) (p : Post G X.w X.s w' σ' s') (C : Addr) (vs : List Value) (kw : List (Str × Value)) : PtC G n where
  hd := X.hd
  w := w'
  σ := σ'
  envs := X.envs
  A := X.A.under (.builtin "type.__call__" ⟨.ref C :: vs, kw⟩)
  s := s'
  B := (X.to p).B
  S := p.S
  hA := ⟨X.hA.handled, by
    have := X.hA.depth
    show X.A.depth + 1 + 4 * n + 2 < 1000
    omega, by
    have := X.hA.units
    show X.A.units + 1 + 100 * n + 150 < 9900
    omega, (X.to p).hA.frs⟩
  fr := X.fr
theorem new_inv {m : RV} {i : Nat} {r : Res V} (h : bindM m (fun v σ => if v.isNone then some (.ok (.ref i), σ) else none) = some (r, σ')) : (m = some (.ok .none, σ') ∧ r = .ok (.ref i)) ∨ ∃ x, m = some (.exc x, σ') ∧ r = .exc x := by
  rcases m with _ | ⟨v | x, σ₁⟩
  · exact no h
  · obtain ⟨hv, h⟩ := if_inv h
    cases v <;> cases hv
    cases h
    exact .inl ⟨rfl, rfl⟩
  · cases h; exact .inr ⟨x, rfl, rfl⟩
theorem sim_new {k : String} {es kes : List E} {kn : List String} {xs : List Expr} {ks : List Keyword} {p : Pos} {C a : Addr} (hg : cx.isGlob (Str.ofString k) = true) (hcl : k ∈ G.com.cls) (hC : clsAt G.K k = some C) (hkeep : keepIn G.K (.ref C) = true)
    (hi : MethAt G.K k "__init__" a) (hsim : SimC G n k "__init__" a) (ha : Sims G n cx es xs) (hks : SimKs G n cx kn kes ks) : Sim G n cx (.new k es kn kes) (.Call (.Name (Str.ofString k) p) xs ks pos) := .of (fun X r σ' hev =>
  callName_sound (kn := kn) (k := fun vs us σ => bindM (run G.P n X.hd k "__init__" (.ref σ.n :: vs) (kn.zip us) (σ.new (.inst k []))) fun r σ' => if r.isNone then some (Res.ok (V.ref σ.n), σ') else none) X (fun hQ => glob_name X hg (clsAt_inv hC) hQ) (keeps_in hkeep) ha hks hev fun vs us xv yv w₁ σ₁ s₁ p hv hu hk => by
    obtain ⟨C', hC', hok⟩ := (X.to p).B.cls _ hcl
    rw [hC] at hC'; cases hC'
    obtain ⟨C', hC', hf, ht, hkp⟩ := hi
    rw [hC] at hC'; cases hC'
    have K1 := (X.to p).B.kin p.S
    obtain ⟨p2, hself⟩ := p.S.newInst hcl hC
    refine wpAny_call (make_core (makes_of K1 (clsOk_parts hok).mi) (looks_findIn K1 hf) (fun self => bind_fn K1 self ht) (.inl rfl) ?_)
    have key := fun r₁ σ₂ h1 => hsim ((X.to p).made p2 C xv ((kn.map Str.ofString).zip yv)) (.ref σ₁.n :: vs) us kn (.ref (s₁.heap.objs.size + 1) :: xv) yv r₁ σ₂ h1 (.cons hself (hv.mono p2.hw.sub)) (hu.mono p2.hw.sub)
    rcases new_inv hk with ⟨h1, rfl⟩ | ⟨x, h1, rfl⟩
    · refine codeAny_mono (key _ _ h1) fun rr s' q => ?_
      rcases rr with e | (_ | _ | _ | v)
      · exact q
      · exact q
      · exact q
      · exact q
      · obtain ⟨w₂, p3, hv'⟩ := q
        cases hv'
        exact ⟨rfl, w₂, (p.ahead.step p2).post p3, hself.mono p3.hw.sub⟩
    · refine codeAny_mono (key _ _ h1) fun rr s' q => ?_
      rcases rr with e | (_ | _ | _ | v)
      · exact XP.mono (p.ahead.step p2) q
      · exact q.elim
      · exact q.elim
      · exact q.elim
      · exact q.elim) fun _ _ => rfl
end
end Lw
namespace Lw
open PySem PySem.W PySem.Calls PyProof.Rows
theorem strLe_iff {a b : Str} : strLe a b = true ↔ a.cps.toList ≤ b.cps.toList := by
  unfold strLe
  simp only [Bool.not_eq_true', decide_eq_false_iff_not]
  exact List.not_lt
theorem strLe_trans (a b c : Str) (h : strLe a b = true) (k : strLe b c = true) : strLe a c = true := strLe_iff.mpr (List.le_trans (strLe_iff.mp h) (strLe_iff.mp k))
theorem strLe_total (a b : Str) : (strLe a b || strLe b a) = true := Bool.or_eq_true_iff.mpr ((List.le_total a.cps.toList b.cps.toList).imp strLe_iff.mpr strLe_iff.mpr)
theorem strLe_antisymm {a b : Str} (h : strLe a b = true) (k : strLe b a = true) : a = b := by
  have := List.le_antisymm (strLe_iff.mp h) (strLe_iff.mp k)
  obtain ⟨⟨a⟩⟩ := a
  obtain ⟨⟨b⟩⟩ := b
  cases this; rfl
theorem sorted_is_mergeSort {l m : List Str} (hp : l.Perm m) (hs : l.Pairwise fun a b => strLe a b = true) : l = m.mergeSort strLe :=
  List.Perm.eq_of_pairwise (le := fun a b => strLe a b = true) (fun _ _ _ _ h k => strLe_antisymm h k) hs (List.pairwise_mergeSort strLe_trans strLe_total m) (hp.trans (List.mergeSort_perm m strLe).symm)
theorem pairwise_of_risingS : ∀ (l : List Str) (p : Str), risingS p l = true → (p :: l).Pairwise fun a b => strLe a b = true
  | [], p, _ => List.pairwise_singleton ..
  | x :: r, p, h => by
    obtain ⟨h1, h2⟩ := Bool.and_eq_true_iff.mp (show (!Spec.ltCps x.cps.toList p.cps.toList && risingS x r) = true from h)
    have ih := pairwise_of_risingS r x h2
    rw [ltCps_eq] at h1
    have h1 : strLe p x = true := h1
    refine List.pairwise_cons.mpr ⟨fun y hy => ?_, ih⟩
    rcases List.mem_cons.mp hy with rfl | hy
    · exact h1
    · exact strLe_trans _ _ _ h1 ((List.pairwise_cons.mp ih).1 y hy)
theorem pairwise_of_sortedS : ∀ {l : List Str}, sortedS l = true → l.Pairwise fun a b => strLe a b = true
  | [], _ => .nil
  | x :: r, h => pairwise_of_risingS r x h
section
variable {G : Gl} {n : Nat} {cx : Cxt} {w : Wd} {s : Shared} {σ σ' : St} {A : Around} {Ex : Value → Shared → Prop} {r : Res V} {mt : Bool}
theorem get_ge {h : Heap} {D : Addr} (hD : ∀ b o, h.get? b = some o → b < D) : h.get? D = none := by
  cases q : h.get? D with
  | none => rfl
  | some o => exact absurd (hD _ _ q) (Nat.lt_irrefl _)
theorem strs_at : ∀ {xs : List Value} {ss : List Str}, xs.length = ss.length → (∀ (j : Nat) (v : Value), xs[j]? = some v → ∃ x t, ss[j]? = some x ∧ v = .str x t) → StrsAre xs ss
  | [], [], _, _ => .nil
  | [], _ :: _, h, _ => nomatch h
  | _ :: _, [], h, _ => nomatch h
  | v :: xs, y :: ss, h, k => by
    obtain ⟨x, t, e, rfl⟩ := k 0 v rfl
    cases e
    exact .cons _ _ (strs_at (Nat.succ.inj h) fun j u hj => k (j + 1) u hj)
noncomputable def Colls (G : Gl) (A : Around) (s : Shared) (x : Value) (ss : List Str) (E : Value → Shared → Prop) : Prop :=
  ∀ R : List Value → Shared → Prop, (∀ (h' : Heap) (tk : Nat) (vs : List Value), (∀ b o, s.heap.get? b = some o → h'.get? b = some o) → StrsAre vs ss → R vs { s with heap := h', toks := tk }) → wpAny G.M A.in1 (collect x) R E s
theorem strs_vrs {xs : List Value} {ss : List Str} (h : StrsAre xs ss) (hok : ∀ y ∈ ss, sOk y = true) : VRs G w (ss.map .str) xs := by
  induction h with
  | nil => exact .nil
  | cons x t _ ih => exact .cons (.str _ _ (hok _ (List.mem_cons_self ..))) (ih fun y hy => hok y (List.mem_cons_of_mem _ hy))
theorem strs_len {xs : List Value} {ss : List Str} (h : StrsAre xs ss) : xs.length = ss.length := by
  induction h with
  | nil => rfl
  | cons _ _ _ ih => exact congrArg (· + 1) ih
theorem sorted_gen {a : Addr} {ss : List Str} (S : SR G w σ s.heap) (hok : ∀ y ∈ ss, sOk y = true) (h64 : ss.length < 64) (hm : mkL mt ((ss.mergeSort strLe).map .str) σ = some (r, σ')) (hcol : Colls G A s (.ref a) ss Ex) : wpAny G.M A (call (.builtin "sorted") [.ref a]) (QV G (VR G) w s r σ') Ex s := by
  refine Calls.call_function_entry kind_sorted plain_sorted entry_sorted (args_sorted1 _) ?_
  unfold Builtin.«sorted»
  refine wpAny_bind (m := checkCount "sorted" 1 1 _) (wpAny_pure (wpAny_bind (hcol _ fun h1 tk vs k1 hS => ?_)))
  have hlen : vs.length < 64 := strs_len hS ▸ h64
  refine wpAny_bind (wpAny_newList ?_ (Nat.le_trans (Nat.le_of_lt hlen) (by decide)))
  have hoL : (h1.push (seqObj "list" vs.toArray 0)).get? h1.objs.size = some (seqObj "list" vs.toArray 0) := Heap.get?_push_size _ rfl
  refine wpAny_bind (wpAny_holding (wpAny_call_entry (s := { s with heap := h1.push (seqObj "list" vs.toArray 0), toks := tk }) PyProof.Rows.slot_list_sort ⟨_, hoL, rfl⟩ PyProof.Rows.entry_list_sort
    (list_sort_treeK strKind_oneLt hoL hS.keysOf (fun v₁ v₂ rest e => keyKind_strs (by rw [← e]; exact hS)) hlen fun st' hp hs => ⟨_, rfl, ?_⟩) (PyProof.Rows.args_list_sort _)))
  obtain ⟨ss', q1, q2, q3⟩ := sorted_out_str hS hp hs
  have e := sorted_is_mergeSort q2 (pairwise_of_sortedS q3)
  subst e
  obtain ⟨e', he'⟩ := sortedHeap_at (out := (arrOf st').map (·.2)) hoL
  have hperm := List.mergeSort_perm ss strLe
  refine wpAny_pure ⟨_, rfl, mkL_at S (strs_vrs q1 fun y hy => hok y (hperm.mem_iff.mp hy)) (by rw [List.length_map, hperm.length_eq]; exact Nat.le_trans (Nat.le_of_lt h64) (by decide)) hm (get_ge fun b o eb => Heap.lt_size (k1 b o eb)) (fun b o eb => ?_) he'⟩
  have hb := Heap.lt_size (k1 b o eb)
  rw [sortedHeap_old (Nat.ne_of_lt hb) (by rw [size_push']; exact Nat.lt_succ_of_lt hb), Heap.get?_push_of_some _ (k1 b o eb)]
theorem colls_list {l : Addr} {items : Array Value} {ss : List Str} (hl : s.heap.IsList l items) (hS : StrsAre items.toList ss) (h64 : ss.length < 64) : Colls G A s (.ref l) ss Ex := fun R hR => by
  have hl' : s.heap.IsList l items.toList.toArray := by rw [Array.toArray_toList]; exact hl
  refine collect_list hl' (hR _ s.toks _ (fun b o e => ?_) hS) (Nat.le_trans (Nat.le_of_lt (strs_len hS ▸ h64)) (by decide))
  rw [Heap.get?_update_other _ _ (Nat.ne_of_gt (Heap.lt_size e))]; exact Heap.get?_push_of_some _ e
theorem sortS_inv {vs ws : List V} (h : sortV false vs = some ws) : vs.length < 64 ∧ ∃ ss, asStrs vs = some ss ∧ ws = (ss.mergeSort strLe).map .str := by
  obtain ⟨h64, h⟩ := if_inv h
  obtain ⟨ss, h1, h2⟩ := Option.map_eq_some_iff.mp h
  exact ⟨h64, ss, h1, h2.symm⟩
theorem keys_strs {es : List (Str × V)} : ∀ {ss : List Str}, asStrs (es.map fun kv => V.str kv.1) = some ss → ss = es.map (·.1) := by
  induction es with
  | nil => intro ss h; cases h; rfl
  | cons kv es ih =>
    intro ss h
    obtain ⟨bs, h2, h⟩ := onO_inv (show onO (asStrs (es.map fun kv => V.str kv.1)) (fun bs => some (kv.1 :: bs)) = some ss from h)
    cases h
    exact congrArg (List.cons _) (ih h2)
theorem sorted_list {l : Addr} {items : Array Value} {vs ws : List V} (S : SR G w σ s.heap) (hl : s.heap.IsList l items) (hvs : VRs G w vs items.toList) (hs : sortV false vs = some ws) (hm : mkL mt ws σ = some (r, σ')) : wpAny G.M A (call (.builtin "sorted") [.ref l]) (QV G (VR G) w s r σ') Ex s := by
  obtain ⟨h64, ss, hss, rfl⟩ := sortS_inv hs
  obtain ⟨i1, i2, i3⟩ := asStrs_sound hvs hss
  have h64 : ss.length < 64 := i3 ▸ h64
  exact sorted_gen S i2 h64 hm (colls_list hl i1 h64)
theorem sortStrs : SortOk G false := fun n cx X mt args xs r σ' Ex hA hv h => by
  obtain ⟨v, rfl, k1⟩ := arg1_inv h
  cases hv with
  | cons hv hr =>
  cases hr
  obtain ⟨vs, hi, k2⟩ := onO_inv k1
  replace hi : sortItems X.σ v = some vs := hi
  obtain ⟨ws, hw, k3⟩ := onO_inv k2
  cases hv with
  | lst e1 e2 e3 e4 e5 => cases hi; exact sorted_list X.S ⟨_, X.S.at e1, e2, _, e3⟩ e4 hw k3
  | ref hp =>
    obtain ⟨o, hg, hi⟩ := onO_inv hi
    have rr := X.S.ref hp hg
    cases o with
    | list l us =>
      cases hi
      obtain ⟨_, xs, k, r1, _, r2, _⟩ := rr
      exact sorted_list X.S ⟨_, r1, rfl, _, rfl⟩ r2 hw k3
    | ds l es =>
      cases hi
      obtain ⟨⟨_, ob, kvs, r1, _, r2, r3, r4, r5⟩, r6⟩ := rr
      obtain ⟨h64, ss, hss, rfl⟩ := sortS_inv hw
      have e := keys_strs hss
      subst e
      rw [List.length_map] at h64
      refine sorted_gen X.S (fun y hy => ?_) (by rw [List.length_map]; exact h64) k3 fun R hR => ?_
      · obtain ⟨kv, hkv, rfl⟩ := List.mem_map.mp hy
        exact r6 kv hkv
      · obtain ⟨ep, hat⟩ := (Heap.dictOf_iff.mpr ⟨ob, r1, r2⟩ : X.s.heap.DictOf (PySem.strKind G.prog G.ω) _ kvs).dictAt
        refine kdu_collect (A := X.A.in1) (kdl_dict (knd := PySem.strKind G.prog G.ω) (kvs := kvs) (ep := ep) (ne_beq r5)) hA hat (by rw [← All2.length r3]; exact Nat.le_trans (Nat.le_of_lt h64) (by decide)) fun h' tk acc hk hacc => ?_
        refine hR h' tk acc.toList hk (strs_at (by rw [Array.length_toList, hacc.1, List.length_map]; exact (All2.length r3).symm) fun j u hu => ?_)
        obtain ⟨k, z, e1, e2⟩ := hacc.2 j u (by rw [← Array.getElem?_toList]; exact hu)
        obtain ⟨t, rfl⟩ := strKind_inv e2
        have hj : j < es.length := All2.length r3 ▸ (List.getElem?_eq_some_iff.mp e1).1
        obtain ⟨f, e3, e4, _⟩ := All2.get r3 (List.getElem?_eq_getElem hj)
        rw [e1] at e3; cases e3
        exact ⟨k, t, by rw [List.getElem?_map, List.getElem?_eq_getElem hj]; exact congrArg some e4.symm, rfl⟩
    | _ => exact no hi
  | _ => exact no hi
end
end Lw
namespace Lw
open PySem PySem.W PySem.Calls PyProof.Rows
noncomputable def Good {α : Type} (n : Nat) (R : α → Prop) : KasT α → Prop
  | .ret a => R a
  | .ask i j k => i < n ∧ j < n ∧ ∀ b, Good n R (k b)
theorem Good.bind {α β : Type} {n : Nat} {R : α → Prop} {R' : β → Prop} {f : α → KasT β} : ∀ {t : KasT α}, Good n R t → (∀ a, R a → Good n R' (f a)) → Good n R' (t.bind f)
  | .ret a, h, k => k a h
  | .ask i j g, h, k => ⟨h.1, h.2.1, fun b => Good.bind (h.2.2 b) k⟩
theorem askT_good {α : Type} {n : Nat} {R : α → Prop} {c : Nat → Nat → Bool} : ∀ {t : KasT α}, Good n R t → R (askT c t)
  | .ret _, h => h
  | .ask i j k, h => show R (askT c (k (c i j))) from askT_good (t := k (c i j)) (h.2.2 (c i j))
theorem askT_wp {α : Type} {n : Nat} {R : α → Prop} {c : Nat → Nat → Bool} {cmp : Nat → Nat → (Bool → Shared → Prop) → Shared → Prop} {Q : α → Shared → Prop} {s : Shared} (hc : ∀ i j C, i < n → j < n → C (c i j) s → cmp i j C s) :
    ∀ {t : KasT α}, Good n R t → Q (askT c t) s → t.kasWp cmp Q s
  | .ret _, _, h => h
  | .ask i j k, g, h => hc i j _ g.1 g.2.1 (askT_wp hc (g.2.2 (c i j)) h)
noncomputable def PermN (n : Nat) (p : Array Nat) : Prop := p.Perm (List.range n).toArray
theorem PermN.lt {n : Nat} {p : Array Nat} (h : PermN n p) (h0 : 0 < n) (k : Nat) : p.getD k 0 < n := by
  by_cases q : k < p.size
  · have e : p.getD k 0 = p[k] := by simp [Array.getD, q]
    rw [e]
    have := (Array.Perm.mem_iff h).mp (Array.getElem_mem q)
    simpa using this
  · have e : p.getD k 0 = 0 := by simp [Array.getD, q]
    rw [e]; exact h0
section
variable {n : Nat} (h0 : 0 < n)
include h0
theorem good_asc {p : Array Nat} (hp : PermN n p) : ∀ (f m : Nat), Good n (fun _ => True) (kas_asc p f m)
  | 0, m => trivial
  | f + 1, m => ⟨hp.lt h0 _, hp.lt h0 _, fun b => by cases b; exact good_asc hp f (m + 1); exact trivial⟩
theorem good_desc : ∀ (f : Nat) (p : Array Nat) (m q : Nat), PermN n p → Good n (fun r => PermN n r.1) (kas_desc f p m q)
  | 0, p, m, q, hp => hp
  | f + 1, p, m, q, hp => ⟨hp.lt h0 _, hp.lt h0 _, fun b => by
    cases b with
    | true =>
      show Good n _ (if q > 0 then kas_desc f (kas_rev p (m - (q + 1)) m) (m + 1) 0 else kas_desc f p (m + 1) 0)
      split
      · exact good_desc f _ _ _ ((mirror_perm _ _ _ _).trans hp)
      · exact good_desc f _ _ _ hp
    | false => exact ⟨hp.lt h0 _, hp.lt h0 _, fun b => by cases b; exact good_desc f _ _ _ hp; exact hp⟩⟩
theorem good_tail {p : Array Nat} (hp : PermN n p) (m nrem : Nat) : Good n (fun r => PermN n r.2) (kas_tail3 m nrem p) :=
  have hq : PermN n (kas_rev p 0 m) := (mirror_perm _ _ _ _).trans hp
  (good_asc h0 hq _ _).bind fun _ _ => hq
theorem good_descPart {p : Array Nat} (hp : PermN n p) (m nrem : Nat) : Good n (fun r => PermN n r.2) (kas_descPart m nrem p) :=
  (good_desc h0 _ p _ _ hp).bind fun r hr => by
    split
    · exact good_tail h0 ((mirror_perm _ _ _ _).trans hr) _ _
    · exact good_tail h0 hr _ _
theorem good_count {p : Array Nat} (hp : PermN n p) (nrem : Nat) : Good n (fun r => PermN n r.2) (kas_count nrem p) :=
  (good_asc h0 hp _ _).bind fun m _ => by
    split
    · exact hp
    · split
      · exact ⟨hp.lt h0 _, hp.lt h0 _, fun b => by cases b; exact good_descPart h0 ((mirror_perm _ _ _ _).trans hp) _ _; exact hp⟩
      · exact good_descPart h0 hp _ _
theorem good_place {p : Array Nat} (hp : PermN n p) (k : Nat) : ∀ (f l r : Nat), Good n (fun _ => True) (kas_place p k f l r)
  | 0, l, r => trivial
  | f + 1, l, r => by
    unfold kas_place
    split
    · exact trivial
    · exact ⟨hp.lt h0 _, hp.lt h0 _, fun b => by cases b; exact good_place hp k f _ _; exact good_place hp k f _ _⟩
theorem good_bin : ∀ (f : Nat) (p : Array Nat) (k : Nat), PermN n p → Good n (PermN n) (kas_bin f p k)
  | 0, p, k, hp => hp
  | f + 1, p, k, hp => (good_place h0 hp k k 0 k).bind fun l _ => good_bin f _ _ ((bubble_perm _ _ _).trans hp)
theorem good_sort : Good n (PermN n) (kas_sort n) :=
  (good_count h0 (Array.Perm.refl _) n).bind fun r hr => by
    split
    · exact good_bin h0 _ _ _ hr
    · exact hr
end
theorem order0 : orderP [] = [] := by kernel_rfl
theorem order1 (p : Int × Int) : orderP [p] = [0] := by kernel_rfl
theorem out0 : ((orderP []).map fun i => ([] : List Value).getD i Value.none).toArray = (PyProof.Rows.pairsOf []).map (·.2) := by kernel_rfl
theorem out1 (v : Value) (p : Int × Int) : ((orderP [p]).map fun i => [v].getD i Value.none).toArray = (PyProof.Rows.pairsOf [v]).map (·.2) := by kernel_rfl
theorem orderP_perm (ps : List (Int × Int)) : (orderP ps).Perm (List.range ps.length) := by
  cases ps with
  | nil => exact .refl _
  | cons a r =>
    have := askT_good (c := fun i j => pairLt (pairAt (a :: r) i) (pairAt (a :: r) j)) (good_sort (n := (a :: r).length) (Nat.succ_pos _))
    exact Array.perm_iff_toList_perm.mp this
theorem sortP_perm (ps : List (Int × Int)) : (sortP ps).Perm ps := by
  have h := (orderP_perm ps).map (pairAt ps)
  have e : (List.range ps.length).map (pairAt ps) = ps := by
    apply List.ext_getElem?
    intro i
    by_cases q : i < ps.length
    · simp [pairAt, q]
    · simp [q]
  rw [e] at h
  exact h
noncomputable def PairsAt (h : Heap) : List Value → List (Int × Int) → Prop := All2 fun v p => ∃ b o t u k, v = .ref b ∧ h.get? b = some o ∧ o.cls = .type "tuple" ∧ o.data = .seq #[.int p.1 t, .int p.2 u] k
section
variable {prog : Program} {w : World} {A : Around} {E : Value → Shared → Prop} {s : Shared} {vs : List Value} {ps : List (Int × Int)}
theorem PairsAt.katTups {h : Heap} (H : PairsAt h vs ps) : ∃ fs, KatTups h vs fs ∧ fs.length = vs.length ∧ ∀ v ∈ fs, ∃ i t, v = .int i t := by
  induction H with
  | nil => exact ⟨[], .nil, rfl, fun _ h => nomatch h⟩
  | cons r _ ih =>
    obtain ⟨b, o, t, u, k, rfl, e1, e2, e3⟩ := r
    obtain ⟨fs, f1, f2, f3⟩ := ih
    exact ⟨_ :: fs, .cons e1 e2 e3 rfl f1, congrArg (· + 1) f2, fun v hv => by
      rcases List.mem_cons.mp hv with rfl | hv
      · exact ⟨_, _, rfl⟩
      · exact f3 v hv⟩
theorem pair_lt {i j : Nat} {C : Bool → Shared → Prop} (H : PairsAt s.heap vs ps) (hi : i < vs.length) (hj : j < vs.length) (h : C (pairLt (pairAt ps i) (pairAt ps j)) s) : kas_ask prog w A (tuples' true) vs i j C s := by
  obtain ⟨p, ep, x, o, t, u, k, e1, e2, e3, e4⟩ := All2.get H (List.getElem?_eq_getElem hi)
  obtain ⟨q, eq, y, o', t', u', k', f1, f2, f3, f4⟩ := All2.get H (List.getElem?_eq_getElem hj)
  have hp : pairAt ps i = p := by unfold pairAt; rw [List.getD_eq_getElem?_getD, ep]; rfl
  have hq : pairAt ps j = q := by unfold pairAt; rw [List.getD_eq_getElem?_getD, eq]; rfl
  rw [hp, hq] at h
  unfold kas_ask
  have g1 : vs.getD i Value.none = .ref x := by rw [List.getD_eq_getElem?_getD, List.getElem?_eq_getElem hi]; exact e1
  have g2 : vs.getD j Value.none = .ref y := by rw [List.getD_eq_getElem?_getD, List.getElem?_eq_getElem hj]; exact f1
  rw [g1, g2]
  refine kat_lt e2 e4 f2 f4 (kat_cons (wpAny_eqBool_int (kat_go (fun e => kat_yes (kat_cons (wpAny_eqBool_int (kat_go (fun e2 => kat_yes (kat_nil ?_)) fun e2 => kat_no (kat_one _ _ (lt_int ?_)))))) fun e => kat_no (oneLt_int ?_))))
  · have e := eq_of_beq e
    have e2 := eq_of_beq e2
    unfold pairLt at h
    rw [if_pos e, e2] at h
    simpa using h
  · have e := eq_of_beq e
    unfold pairLt at h
    rw [if_pos e] at h
    exact h
  · have e := ne_of_beq_false e
    unfold pairLt at h
    rw [if_neg e] at h
    exact h
theorem list_sort_pairs {a : Addr} {n : Nat} {P : Fin → Shared → Prop} (ho : s.heap.get? a = some (seqObj "list" vs.toArray n)) (H : PairsAt s.heap vs ps) (h64 : vs.length < 64)
    (h : P (.done (.ret .none)) { s with heap := sortedHeap s.heap a vs ((orderP ps).map fun i => vs.getD i Value.none).toArray }) :
    wpAny (model prog w) A (Builtin.«list.sort» ⟨[.ref a], []⟩) P E s := by
  rw [list_sort_plain]
  have ha : a < s.heap.objs.size := Heap.lt_size ho
  refine wpAny_bind (listItems_at ho rfl ?_)
  refine wpAny_bind (listUpdate_at ho rfl ?_ (by rw [List.size_toArray, sizeLine_eq]; omega) (Nat.zero_le _))
  obtain ⟨e1, ho1⟩ : ∃ e1, (s.heap.update a (Obj.mapSeq fun _ => (#[] : Array Value))).get? a = some (seqObj "list" #[] e1) := ⟨_, get?_update_seq ho (fun _ => #[])⟩
  refine wpAny_bind (seqEpoch_at ho1 rfl ?_)
  refine wpAny_bind (wpAny_newTuple ?_ (by show vs.length ≤ _; rw [sizeLine_eq]; omega))
  refine wpAny_bind (wpAny_newList ?_ (Nat.zero_le _))
  refine wpAny_holding ?_
  have keep : ∀ b o, b ≠ a → s.heap.get? b = some o → (((s.heap.update a (Obj.mapSeq fun _ => (#[] : Array Value))).push (seqObj "tuple" vs.toArray 0)).push (seqObj "list" #[] 0)).get? b = some o := fun b o hb e =>
    Heap.get?_push_of_some _ (Heap.get?_push_of_some _ ((Heap.get?_update_other _ _ (Ne.symm hb)).trans e))
  have ho6 : (((s.heap.update a (Obj.mapSeq fun _ => (#[] : Array Value))).push (seqObj "tuple" vs.toArray 0)).push (seqObj "list" #[] 0)).get? a = some (seqObj "list" #[] e1) := Heap.get?_push_of_some _ (Heap.get?_push_of_some _ ho1)
  have H6 : PairsAt (((s.heap.update a (Obj.mapSeq fun _ => (#[] : Array Value))).push (seqObj "tuple" vs.toArray 0)).push (seqObj "list" #[] 0)) vs ps := All2.mono H fun v p ⟨b, o, t, u, k, z1, z2, z3, z4⟩ => ⟨b, o, t, u, k, z1, keep b o (fun q => by rw [q, ho] at z2; cases z2; exact absurd (Value.type.inj z3) (by decide)) z2, z3, z4⟩
  have hlen : ps.length = vs.length := (All2.length H).symm
  show wpAny (model prog w) A _ P E { s with heap := ((s.heap.update a (Obj.mapSeq fun _ => (#[] : Array Value))).push (seqObj "tuple" vs.toArray 0)).push (seqObj "list" #[] 0) }
  dsimp only
  have hsz : vs.toArray.size = vs.length := by simp
  by_cases h2 : vs.toArray.size < 2
  · rw [if_pos h2, if_pos h2]
    refine wpAny_bind (wpAny_pure ?_)
    rw [StateT.run_pure]
    refine wpAny_bind (wpAny_pure ?_)
    dsimp only
    refine wpAny_bind (seqEpoch_at ho6 rfl ?_)
    refine wpAny_bind (listUpdate_at ho6 rfl ?_ (hsz2 := by rw [Array.size_map]; show (pairsOf vs).size ≤ _; rw [pairsOf_size, sizeLine_eq]; omega))
    simp only [bne_self_eq_false, Bool.false_eq_true, if_false]
    refine wpAny_pure ?_
    have eo : ((orderP ps).map fun i => vs.getD i Value.none).toArray = (pairsOf vs).map (·.2) := by
      match vs, ps, hlen, hsz, h2 with
      | [], [], _, _, _ => exact out0
      | [v], [p], _, _, _ => exact out1 v p
      | _ :: _ :: r, _, _, _, h2 => exact absurd h2 (Nat.not_lt.mpr (Nat.le_add_left 2 r.length))
    rw [eo] at h
    exact h
  · rw [if_neg h2, if_neg h2]
    have h2 : 2 ≤ vs.length := by omega
    obtain ⟨fs, f1, f2, f3⟩ := H6.katTups
    refine wpAny_bind (kat_kind (T := .type "int") f1 (by omega) (fun v hv => by obtain ⟨i, t, rfl⟩ := f3 v hv; exact Looks.of_pure rfl) rfl ?_)
    refine wpAny_bind (wpAny_mono (kat_run (Q := fun st' s' => ∃ p : Array Nat, p.size = vs.length ∧ arrOf st' = p.map (kas_item (vs.toArray.zip vs.toArray)) ∧ failedOf st' = none ∧ p = askT (fun i j => pairLt (pairAt ps i) (pairAt ps j)) (kas_sort vs.length) ∧ s' = { s with heap := ((s.heap.update a (Obj.mapSeq fun _ => (#[] : Array Value))).push (seqObj "tuple" vs.toArray 0)).push (seqObj "list" #[] 0) })
      rfl h2 h64 (fun p' st' s' a1 a2 a3 a4 => ⟨p', a1, a2, a3, a4⟩) (askT_wp (c := fun i j => pairLt (pairAt ps i) (pairAt ps j)) (fun i j C hi hj hC => pair_lt H6 hi hj hC) (good_sort (by omega)) ⟨rfl, rfl⟩)) ?_ fun _ _ e => e)
    rintro ⟨⟨⟩, st'⟩ s' ⟨p, hp, har, hf, ep, rfl⟩
    dsimp only
    have eo : ((orderP ps).map fun i => vs.getD i Value.none).toArray = (arrOf st').map (·.2) := by
      rw [kat_snds rfl har]
      unfold orderP
      rw [hlen, ← ep]
    refine wpAny_bind (seqEpoch_at ho6 rfl ?_)
    refine wpAny_bind (listUpdate_at ho6 rfl ?_ (hsz2 := by rw [har, Array.size_map, Array.size_map, hp, sizeLine_eq]; omega))
    rw [hf]
    simp only [bne_self_eq_false, Bool.false_eq_true, if_false]
    refine wpAny_pure ?_
    rw [eo] at h
    exact h
end
section
variable {G : Gl} {n : Nat} {cx : Cxt} {w : Wd} {s : Shared} {σ σ' : St} {A : Around} {Ex : Value → Shared → Prop} {r : Res V} {mt : Bool}
theorem asPair_inv {v : V} {p : Int × Int} (h : asPair v = some p) : v = pairV p := by
  cases v with
  | tup vs =>
    rcases vs with _ | ⟨a, _ | ⟨b, _ | ⟨c, r⟩⟩⟩
    · exact no h
    · exact no h
    · obtain ⟨i, rfl, h⟩ := withInt_inv (show withInt a (fun a => withInt b fun b => some (a, b)) = some p from h)
      obtain ⟨j, rfl, h⟩ := withInt_inv h
      cases h; rfl
    · exact no h
  | _ => exact no h
theorem pairs_at {vs : List V} {xs : List Value} (S : SR G w σ s.heap) (h : VRs G w vs xs) : ∀ {ps : List (Int × Int)}, asPairs vs = some ps → PairsAt s.heap xs ps := by
  induction h with
  | nil => intro ps h; cases h; exact .nil
  | cons hv _ ih =>
    intro ps h
    obtain ⟨p, h1, h⟩ := onO_inv h
    obtain ⟨qs, h2, h⟩ := onO_inv h
    cases h
    refine .cons ?_ (ih h2)
    rw [asPair_inv h1] at hv
    cases hv with
    | @tup _ a o ys k e1 e2 e3 e4 _ =>
      have hl := All2.length e4
      obtain ⟨ys⟩ := ys
      cases e4 with
      | cons q1 q2 =>
        cases q2 with
        | cons q2 q3 =>
          cases q3
          cases q1
          cases q2
          exact ⟨a, o, _, _, k, rfl, S.at e1, e2, e3⟩
theorem vrs_perm {vs : List V} {xs : List Value} {d : V} (h : VRs G w vs xs) : ∀ (l : List Nat), (∀ i ∈ l, i < vs.length) → VRs G w (l.map fun i => vs.getD i d) (l.map fun i => xs.getD i Value.none)
  | [], _ => .nil
  | i :: l, k => by
    refine .cons ?_ (vrs_perm h l fun j hj => k j (List.mem_cons_of_mem _ hj))
    have hi := k i (List.mem_cons_self ..)
    obtain ⟨y, e1, e2⟩ := All2.get h (List.getElem?_eq_getElem hi)
    show VR G w (vs.getD i d) (xs.getD i Value.none)
    rw [List.getD_eq_getElem?_getD, List.getD_eq_getElem?_getD, e1, List.getElem?_eq_getElem hi]
    exact e2
theorem asPairs_map : ∀ {vs : List V} {ps : List (Int × Int)}, asPairs vs = some ps → vs = ps.map pairV
  | [], ps, h => by cases h; rfl
  | v :: vs, ps, h => by
    obtain ⟨p, h1, h⟩ := onO_inv h
    obtain ⟨qs, h2, h⟩ := onO_inv h
    cases h
    rw [asPair_inv h1, asPairs_map h2]; rfl
theorem sorted_pairs {a : Addr} {items : Array Value} {vs ws : List V} (S : SR G w σ s.heap) (hl : s.heap.IsList a items) (hvs : VRs G w vs items.toList) (hs : sortV true vs = some ws) (hm : mkL mt ws σ = some (r, σ')) : wpAny G.M A (call (.builtin "sorted") [.ref a]) (QV G (VR G) w s r σ') Ex s := by
  obtain ⟨h64, hs⟩ := if_inv hs
  obtain ⟨ps, hps, rfl⟩ := Option.map_eq_some_iff.mp (show (asPairs vs).map (fun ps => (sortP ps).map pairV) = some ws from hs)
  have hlen : items.toList.length < 64 := All2.length hvs ▸ h64
  refine Calls.call_function_entry kind_sorted plain_sorted entry_sorted (args_sorted1 _) ?_
  unfold Builtin.«sorted»
  have hl' : s.heap.IsList a items.toList.toArray := by rw [Array.toArray_toList]; exact hl
  refine wpAny_bind (m := checkCount "sorted" 1 1 _) (wpAny_pure (wpAny_bind (collect_list hl' ?_ (Nat.le_trans (Nat.le_of_lt hlen) (by decide)))))
  have k1 : ∀ b o, s.heap.get? b = some o → ((s.heap.push (seqObj "list" #[] 0)).update s.heap.objs.size (Obj.mapSeq (· ++ items.toList.toArray))).get? b = some o := fun b o e => by
    rw [Heap.get?_update_other _ _ (Nat.ne_of_gt (Heap.lt_size e))]; exact Heap.get?_push_of_some _ e
  refine wpAny_bind (wpAny_newList ?_ (Nat.le_trans (Nat.le_of_lt hlen) (by decide)))
  show wpAny _ _ _ _ _ { s with heap := ((s.heap.push (seqObj "list" #[] 0)).update s.heap.objs.size (Obj.mapSeq (· ++ items.toList.toArray))).push (seqObj "list" items.toList.toArray 0) }
  generalize (s.heap.push (seqObj "list" #[] 0)).update s.heap.objs.size (Obj.mapSeq (· ++ items.toList.toArray)) = h1 at k1
  have hoL : (h1.push (seqObj "list" items.toList.toArray 0)).get? h1.objs.size = some (seqObj "list" items.toList.toArray 0) := Heap.get?_push_size _ rfl
  have H : PairsAt (h1.push (seqObj "list" items.toList.toArray 0)) items.toList ps := All2.mono (pairs_at S hvs hps) fun v p ⟨b, o, t, u, k, z1, z2, z3, z4⟩ => ⟨b, o, t, u, k, z1, Heap.get?_push_of_some _ (k1 _ _ z2), z3, z4⟩
  refine wpAny_bind (wpAny_holding (wpAny_call_entry (s := { s with heap := h1.push (seqObj "list" items.toList.toArray 0) }) PyProof.Rows.slot_list_sort ⟨_, hoL, rfl⟩ PyProof.Rows.entry_list_sort
    (list_sort_pairs hoL H hlen ⟨_, rfl, ?_⟩) (PyProof.Rows.args_list_sort _)))
  obtain ⟨e', he'⟩ := sortedHeap_at (out := ((orderP ps).map fun i => items.toList.getD i Value.none).toArray) hoL
  have ev := asPairs_map hps
  have hlp : vs.length = ps.length := by rw [ev, List.length_map]
  have hord := orderP_perm ps
  have hV : VRs G w ((sortP ps).map pairV) ((orderP ps).map fun i => items.toList.getD i Value.none) := by
    have := vrs_perm (d := pairV (0, 0)) hvs (orderP ps) fun i hi => by rw [hlp]; exact List.mem_range.mp (hord.mem_iff.mp hi)
    rw [show (orderP ps).map (fun i => vs.getD i (pairV (0, 0))) = (sortP ps).map pairV from by
      unfold sortP
      rw [List.map_map, ev]
      exact List.map_congr_left fun i _ => by
        show (ps.map pairV).getD i (pairV (0, 0)) = pairV (pairAt ps i)
        unfold pairAt
        rw [List.getD_eq_getElem?_getD, List.getD_eq_getElem?_getD, List.getElem?_map]
        cases ps[i]? <;> rfl] at this
    exact this
  refine wpAny_pure ⟨_, rfl, mkL_at S (out := ((orderP ps).map fun i => items.toList.getD i Value.none).toArray) hV (by rw [List.length_map, (sortP_perm ps).length_eq, ← hlp]; exact Nat.le_trans (Nat.le_of_lt h64) (by decide)) hm (get_ge fun b o eb => Heap.lt_size (k1 b o eb)) (fun b o eb => ?_) he'⟩
  have hb := Heap.lt_size (k1 b o eb)
  rw [sortedHeap_old (Nat.ne_of_lt hb) (by rw [size_push']; exact Nat.lt_succ_of_lt hb), Heap.get?_push_of_some _ (k1 b o eb)]
theorem sortPairs : SortOk G true := fun n cx X mt args xs r σ' Ex hA hv h => by
  obtain ⟨v, rfl, k1⟩ := arg1_inv h
  cases hv with
  | cons hv hr =>
  cases hr
  obtain ⟨vs, hi, k2⟩ := onO_inv k1
  replace hi : seqOf X.σ v = some vs := hi
  obtain ⟨ws, hw, k3⟩ := onO_inv k2
  obtain ⟨a, xs, rfl, hl, hx⟩ := seqOf_sound X.S hv hi
  exact sorted_pairs X.S hl hx.1 hw k3
end
end Lw
namespace Lw
open PySem PySem.W PySem.Calls PyProof.Rows
section
variable {G : Gl} {n : Nat} {cx : Cxt} {w : Wd} {s : Shared} {σ σ' : St} {A : Around} {Ex : Value → Shared → Prop} {x : Value} {pos : Pos}
theorem All2.reverse {α β : Type} {R : α → β → Prop} {as : List α} {bs : List β} (h : All2 R as bs) : All2 R as.reverse bs.reverse := by
  induction h with
  | nil => exact .nil
  | cons a _ ih => rw [List.reverse_cons, List.reverse_cons]; exact ih.append (.cons a .nil)
theorem rev_sound {mt : Bool} {ve se : Expr} {sp : Pos} {t : Tok} {o : V} {r : Res V} (S : SR G w σ s.heap) (ho : VR G w o x) (hv : onO (seqOf σ o) (fun vs => mkL mt vs.reverse σ) = some (r, σ')) :
    wpAny G.M A (subscriptTail ve (.Slice none none (some se) sp) x (.ref s.heap.objs.size)) (QV G (VR G) w s r σ') Ex { s with heap := s.heap.push (sliceObj .none .none (.int (-1) t)) } := by
  have S' : SR G w σ (s.heap.push (sliceObj .none .none (.int (-1) t))) := S.keeps (push_keeps _ _)
  obtain ⟨vs, h1, hv⟩ := onO_inv hv
  obtain ⟨l, xs, rfl, hL, hvs, hlim⟩ := seqOf_sound S ho h1
  have hL := IsList_keep (push_keeps _ (sliceObj .none .none (.int (-1) t))) hL
  refine tail_any hL.typeIs slot_list_getitem.lookup (wpAny_getItem_list_slice hL ⟨_, Heap.get?_push_size _ rfl, rfl, rfl⟩ .none .none (.int (-1) t) (fun q => by cases q) ?_ (by rw [← hvs.size]; exact lim_size0 hlim)) rfl
  rw [krv_pick]
  exact (Ahead.push _).qv (mkL_new (s := { s with heap := s.heap.push (sliceObj .none .none (.int (-1) t)) }) (out := xs.toList.reverse.toArray) (tk := s.toks) S' hvs.reverse (by rw [List.length_reverse]; exact hlim) hv)
theorem sim_rev {mt : Bool} {o : E} {l se : Expr} {sp : Pos} (ho : Sim G n cx o l) (hst : Sim G n cx (.neg (.cInt 1)) se) : Sim G n cx (.rev mt o) (.Subscript l (.Slice none none (some se) sp) pos) :=
  .of (fun X r σ' hev => Subscript_ (ho.bind X .refl hev fun x xv w₁ σ₁ s₁ p hx hk => wpAny_Slice (by
    rw [evalPart_none]
    refine wpAny_pure (wpAny_pure (wpAny_mono (hst.v (X.to p) (.ok (.int (-1))) σ₁ rfl) (fun y s₂ ⟨w₂, q, hy⟩ => ?_) fun _ _ q => q.elim))
    obtain ⟨t, rfl⟩ := hy.intv
    exact wpAny_mono (rev_sound q.S (hx.mono q.hw.sub) hk) (fun _ _ q' => (p.ahead.step q).qv q') fun _ _ q' => q'))) fun _ _ => rfl
end
end Lw
namespace Lw
open PySem PySem.W PySem.Calls PyProof.Rows
section
variable {G : Gl} {n : Nat} {cx : Cxt} {w w' w₀ : Wd} {s s' s₀ : Shared} {σ σ' : St} {env : Env} {envs : List Env} {pos : Pos} {x : String} {C D : Addr}
theorem sim_raise {m : Str} {np cpos p : Pos} {j : Nat} (hx : ExcCls G x C) (hg : cx.isGlob (Str.ofString x) = true) (hm : sOk m = true) :
    SimS G n cx (.raise x m) (.Raise (some (.Call (.Name (Str.ofString x) np) [.Constant (.str m) j p] [] cpos)) none pos) := fun Y fl ρ' σ' hev => by
  obtain ⟨h1, hev⟩ := ifn_inv (show (if Y.hd = true then none else if Y.dr = true then some (Fl.exc x, Y.ρ, Y.σ) else none) = some (fl, ρ', σ') from hev)
  obtain ⟨h2, hev⟩ := if_inv hev
  cases hev
  have Bw := Y.B.mono Y.le.sub
  obtain ⟨nm, q, N, bs, bm, hdct, sn, sub, ab, col, dd, k0, k1, k2, k3, k5, mN, e1, e2, e3, e4⟩ := excObj_at (Bw.kin Y.S) (Bw.excs hx).1
  have hbase : bm.contains (.type "BaseException") = true := e4.hasType (by decide)
  refine wpAny_Raise_call_subU (bmB := excBm) (C := C) (nm := nm) (q := q) (N := N) (bs := bs) (hdct := hdct) (sn := sn) (sub := sub) (ab := ab) (col := col) (dd := dd) (k0 := k0) (k1 := k1) (k2 := k2) (k3 := k3) (k5 := k5) F.excBase_ValueError (by decide) F.excBase_ValueError hbase (Y.hA.handled (by simpa using h1)) rfl e3 (glob_name Y.pt hg (clsAt_inv hx.2) ⟨rfl, ?_⟩)
  show wpAny _ _ (evalArgs (.ref C) true [(false, eval (.Constant (.str m) j p) Y.env)] []) _ _ _
  refine Calls.evalArgs_plain (spliced_cons (wpAny_Constant_str (spliced_nil ⟨rfl, (show (1 : Nat) ≤ sizeLine by decide), e1, e2, e4, fun h' e hm => ⟨Y.w, Y.le, Y.F, Y.M, .inr ⟨h2, e, C, _, _, rfl, hx, .of _ _ _, Y.S, hm⟩⟩⟩)))
theorem exc_matches {A : Around} {d : String} {e : Addr} {oe : Obj} {Q : Bool → Shared → Prop} {Ex : Value → Shared → Prop} (B : Base G w) (S : SR G w σ s.heap) (hx : ExcCls G x C) (hD : ExcCls G d D) (he : s.heap.get? e = some oe) (hc : oe.cls = .ref C) (hs : G.P.sub x d = true) (h : Q true s) :
    wpAny G.M A (excMatches (.ref e) (.ref D)) Q Ex s := by
  have X := B.kin S
  obtain ⟨nm, q, N, bs, bm, hdct, sn, sub, ab, col, dd, k0, k1, k2, k3, k5, mN, e1, _⟩ := excObj_at X (B.excs hD).1
  have a1 := (B.excs hD).2.1
  unfold excAtt at a1
  have L1 : Looks G.M s.heap (isInstance (.ref D) (.type "tuple")) false := ((Looks.ld e1).andThen .now : Looks G.M s.heap (typeOf (.ref D)) (.type "type")).andThen (Looks.of_pure tc_notTuple)
  have L2 : Looks G.M s.heap (isType (.ref D)) true := by
    intro A' Q' E' s' k q
    unfold isType loadHead
    exact wpAny_bind (wpAny_loadPart (k _ _ e1) (wpAny_pure q))
  have L3 : Looks G.M s.heap (isSubtype (.ref D) (.type "BaseException")) true := looks_mroIn X (beqO (and2B (and2B (and2B (and2B (and2B (and2B a1).2).2).2).2).2).2)
  have L4 : Looks G.M s.heap (typeOf (.ref e)) (.ref C) := hc ▸ (Looks.ld he).andThen .now
  have L5 : Looks G.M s.heap (isSubtype (.ref C) (.ref D)) true := looks_mroIn X (hs ▸ ((B.excs hx).2.2.2 d D (.inl hD.1) hD.2).2)
  obtain ⟨hh, g, d, t, os⟩ := s
  unfold excMatches isExcClass
  repeat (first | with_reducible refine Looks.at (by assumption) ?_ | wp_step)
  exact h
theorem fr_none {vis : List (Str × Nat)} {ρ : Rho} {o : Obj} {m : Str → Option Value} (F : FR G w env vis ρ) (hm : w'.m env.locals = some (.fr o)) (hN : ObjNs o m) : FR G w' env vis fun _ => none :=
  ⟨F.kind, F.glob, F.bi, ⟨o, m, hm, hN, fun _ _ _ _ _ e => no e⟩, fun _ _ _ _ _ e => no e⟩
theorem unbind_inv {r : RS} {fl : Fl} {ρ' : Rho} (h : unbind r = some (fl, ρ', σ')) : ∃ v ρ, r = some (.ret v, ρ, σ') ∧ fl = .ret v ∧ ρ' = fun _ => none := by
  rcases r with _ | ⟨_ | v | c, ρ, σ⟩
  · exact no h
  · exact no h
  · cases h; exact ⟨v, ρ, rfl, rfl, rfl⟩
  · exact no h
theorem name_goes {v : V} {z : Value} {ρ : Rho} {y : Str} {p : Pos} {A : Around} {Ex : Value → Shared → Prop} (Y : PtS G n cx) (hl : cx.scope.names.lookup y = some .local) (q : SPost G cx.vis Y.w₀ s Y.env w' ρ σ' s') (hv : VR G w' v z) :
    wpAny G.M A (do bindName Y.env y .none; unbindBehindTheSuite Y.env y p) (fun _ s'' => QS G cx.vis Y.w₀ s Y.env (.ret v) (fun _ => none) σ' (.ret z) s'') Ex s' := by
  rw [← Y.hn.names] at hl
  obtain ⟨ob, _, hm, hns0, _⟩ := q.F.ns
  obtain ⟨m, hns, _⟩ := q.F.locals q.S
  refine wpAny_nameGoes hl hns (by rw [q.F.kind]; rfl) fun h' m' hn' hs' => ?_
  obtain ⟨o', ho', hN⟩ := ObjNs.of hn'
  have sub : w'.Sub (w'.set Y.env.locals (.fr o')) := sub_set hm fun _ q => nomatch q
  have ne : ∀ z a, Y.env.cells.lookup z = some a → a ≠ Y.env.locals := fun z a e k => by
    obtain ⟨o, v, e1, e2⟩ := q.M.cells z a e
    rw [k, hm] at e1; cases e1
    obtain ⟨es, ep, k, _⟩ := hns0
    rw [k] at e2; cases e2
  exact ⟨z, _, rfl, ⟨q.hs.trans (.of _ _ _), ⟨fun b z e => (Wd.set_ne fun k => by rw [k, q.M.out] at e; cases e).trans (q.le.m b z e), q.le.φ⟩, q.S.turnF hm (fun b z hb e => (hs'.2 b hb).trans e) (okFr hN.nf ho'), fr_none q.F Wd.set_at hN,
    q.M.frm, q.M.out, q.M.cout, fun z a e => let ⟨o, v, k, r⟩ := q.M.cells z a e; ⟨o, v, (Wd.set_ne (ne z a e)).trans k, r⟩, q.M.inj⟩, hv.mono sub⟩
theorem XP.out {B : Heap} {ea : Addr} {a0 : Value} {h : Heap} {l : List Env} {cls : Value} (S : SR G w σ h) (hf : Heap.FlyingW B l ea cls a0 h) (hB : ∀ b o y, w.m b = some o → (∀ z, o ≠ .fr z) → h.get? b = some y → B.get? b = some y) : w.m ea = none := by
  cases e : w.m ea with
  | none => rfl
  | some o =>
    obtain ⟨oe, vs, he, _, hd, _⟩ := hf.first
    have k := S.m _ _ e
    have h2 := hf.2.1
    cases o with
    | fr z => obtain ⟨q, sl, r⟩ := k; rw [he] at r; cases r; exact absurd hd (q vs)
    | _ => have := hB ea _ _ e (fun z q => nomatch q) he; rw [h2] at this; cases this
theorem sim_try {b h : List S} {k : Nat} {body : List Stmt} {h₀ : Stmt} {suite : List Stmt} {y : Str} {np hp : Pos} (hx : ExcCls G x D) (hg : cx.isGlob (Str.ofString x) = true) (hvis : VisOK cx.vis) (hk : cx.vis.lookup y = some k) (hl : cx.scope.names.lookup y = some .local)
    (hb : SimSs G n cx b body) (hh : SimSs G n cx h (h₀ :: suite)) : SimS G n cx (.tryx b x k h) (.Try body [.ExceptHandler (some (.Name (Str.ofString x) np)) (some y) (h₀ :: suite) hp] [] [] pos) := fun Y fl ρ' σ' hev => by
  obtain ⟨hhd, hev⟩ := ifn_inv (show (if Y.hd = true then none else catchS (Lw.execs G.P (run G.P n) false false b Y.ρ Y.σ) fun z ρ σ => if G.P.sub z x = true then unbind (Lw.execs G.P (run G.P n) true false h (upd ρ k (.exc z)) σ) else none) = some (fl, ρ', σ') from hev)
  have hd0 : Y.hd = false := by simpa using hhd
  refine wpAny_Try_except ?_
  cases hb1 : Lw.execs G.P (run G.P n) false false b Y.ρ Y.σ with
  | none => rw [hb1] at hev; exact no hev
  | some q =>
    obtain ⟨fl₁, ρ₁, σ₁⟩ := q
    rw [hb1] at hev
    have key := hb { Y with dr := false } fl₁ ρ₁ σ₁ (show Lw.execs G.P (run G.P n) Y.hd false b Y.ρ Y.σ = some (fl₁, ρ₁, σ₁) by rw [hd0]; exact hb1)
    cases fl₁ with
    | next => cases hev; exact wpAny_mono key (fun f s₁ q => by obtain ⟨rfl, q⟩ := q; exact wpAny_execs_nil ⟨rfl, q⟩) fun _ _ q => q.elim
    | ret v => cases hev; exact wpAny_mono key (fun f s₁ q => by obtain ⟨z, w₁, rfl, q⟩ := q; exact ⟨z, w₁, rfl, q⟩) fun _ _ q => q.elim
    | exc x' =>
      obtain ⟨hsub, hev⟩ := if_inv (show (if G.P.sub x' x = true then unbind (Lw.execs G.P (run G.P n) true false h (upd ρ₁ k (.exc x')) σ₁) else none) = some (fl, ρ', σ') from hev)
      obtain ⟨v, ρ₂, hx2, rfl, rfl⟩ := unbind_inv hev
      refine wpAny_mono key (fun _ _ q => q.elim) fun e s₁ q => ?_
      obtain ⟨w₁, le₁, F₁, M₁, q | ⟨q, _⟩⟩ := q
      · obtain ⟨ea, C, a0, B, w₂, rfl, hC, p, hfl, hB⟩ := q
        have le₂ := le₁.trans p.hw
        refine wpAny_looks_onW Y.fr M₁.frm hfl fun h₄ hf4 u4 => ?_
        refine wpAny_landsW hf4 fun h₅ hf5 u5 => ?_
        have S5 : SR G w₂ σ₁ h₅ := p.S.fly hB hf5.1 (u4.trans u5)
        let Y5 : PtS G n cx := ⟨true, false, Y.w₀, w₂, ρ₁, σ₁, Y.env, Y.envs, Y.A.mark (some (.ref ea)), { s₁ with heap := h₅ }, Y.B, le₂, S5, F₁.mono p.hw, M₁.mono p.hw, Y.hn, ⟨(fun q => nomatch q), Y.hA.depth, Y.hA.units, Y.hA.frs⟩, Y.fr⟩
        refine wpAny_handleBy_cons (codeAny_handlers_test (glob_name Y5.pt hg (clsAt_inv hx.2) ?_)) (fun q => nomatch q)
        obtain ⟨oe5, _, he5, hc5, _⟩ := hf5.first
        refine exc_matches (w := w₂) (σ := σ₁) (Y.B.mono le₂.sub) S5 hC hx he5 hc5 hsub ?_
        refine codeAny_handlers_suite_as (lands_againW hf5 fun h₆ hf6 u6 => ?_)
        obtain ⟨oe, vs, he, hcls, hd, _⟩ := hf6.first
        have S6 : SR G w₂ σ₁ h₆ := p.S.fly hB hf6.1 ((u4.trans u5).trans u6)
        have hn : w₂.m ea = none := XP.out p.S hfl hB
        have le3 : w₂.Le (w₂.set ea (.fix oe)) := Wd.le_set hn
        have S7 : SR G (w₂.set ea (.fix oe)) σ₁ h₆ := S6.set le3.sub (Wd.unheld_none hn) (fun _ _ _ q => q) he
        let Y6 : PtS G n cx := ⟨true, false, Y.w₀, w₂.set ea (.fix oe), ρ₁, σ₁, Y.env, Y.envs, Y.A.mark (some (.ref ea)), { s₁ with heap := h₆ }, Y.B, le₂.trans le3, S7, (F₁.mono p.hw).mono le3, (M₁.mono p.hw).mono le3, Y.hn, ⟨(fun q => nomatch q), Y.hA.depth, Y.hA.units, Y.hA.frs⟩, Y.fr⟩
        refine wpAny_mono (store_local Y6 hvis hk hl (v := .exc x') (.exc Wd.set_at hcls (by unfold notCls; rw [hd]) hC)) (fun _ s₇ q => ?_) fun _ _ q => q
        obtain ⟨w₇, q7, _⟩ := q
        refine wpAny_mono (hh (Y6.next q7) _ _ _ hx2) (fun f s₈ q => ?_) fun _ _ q => q.elim
        obtain ⟨z, w₈, rfl, q8, hv⟩ := q
        exact name_goes Y hl (q8.mono ((p.hs.trans (.of _ _ s₁.toks)).trans q7.hs)) hv
      · cases q
end
end Lw
namespace Lw
open PySem PySem.W PySem.Calls PyProof.Rows
structure Stc (G : Gl) (n : Nat) (cx : Cxt) : Prop where
  fcall : ∀ f, f ∈ cx.fns → ∃ a, nsIn G.K mainGlobals (Str.ofString f) = some (some (.ref a)) ∧ keepIn G.K (.ref a) = true ∧ SimC G n "" f a
  new : ∀ k, k ∈ cx.cls → k ∈ G.com.cls ∧ ∃ C a, clsAt G.K k = some C ∧ keepIn G.K (.ref C) = true ∧ MethAt G.K k "__init__" a ∧ SimC G n k "__init__" a
  meth : ∀ cc m fn, cc ∈ G.com.cls → G.P.fns cc m = some fn → ∃ a, MethAt G.K cc m a ∧ SimC G n cc m a
  exc : ∀ k, k ∈ cx.excs → k ∈ G.com.excs ∧ ∃ C, clsAt G.K k = some C
  bfn : ∀ x, x ∈ cx.bifs → nsIn G.K mainGlobals (Str.ofString x) = some none
  gi : ∀ x i, (x, i) ∈ cx.gis → ∃ t, nsIn G.K mainGlobals (Str.ofString x) = some (some (.int i t))
  so : SortOk G false
  sp : "sorted2" ∈ cx.bifs → SortOk G true
theorem onB_inv {α : Type} {o : Option α} {f : α → Bool} (h : onB o f = true) : ∃ a, o = some a ∧ f a = true := by
  cases o with
  | none => exact noB h
  | some a => exact ⟨a, rfl, h⟩
theorem and_inv {a b : Bool} (h : (a && b) = true) : a = true ∧ b = true := Bool.and_eq_true_iff.mp h
theorem eq_inv {α : Type} [BEq α] [LawfulBEq α] {a b : α} (h : (a == b) = true) : a = b := eq_of_beq h
theorem one_inv {α : Type} {l : List α} {a : α} (h : one l = some a) : l = [a] := by
  rcases l with _ | ⟨b, _ | ⟨d, r⟩⟩
  · exact no h
  · cases h; rfl
  · exact no h
theorem two_inv {α : Type} {l : List α} {a : α × α} (h : two l = some a) : l = [a.1, a.2] := by
  rcases l with _ | ⟨b, _ | ⟨d, _ | ⟨e, r⟩⟩⟩
  · exact no h
  · exact no h
  · cases h; rfl
  · exact no h
theorem nil_inv {α : Type} {l : List α} (h : l.isEmpty = true) : l = [] := List.isEmpty_iff.mp h
theorem none_inv {α : Type} {o : Option α} (h : o.isNone = true) : o = none := Option.isNone_iff_eq_none.mp h
section
variable {x : Expr} {s : Stmt} {k : Const}
theorem constX_inv (h : constX x = some k) : ∃ j p, x = .Constant k j p := by cases x <;> first | exact no h | (cases h; exact ⟨_, _, rfl⟩)
theorem nameX_inv {y : Str} (h : nameX x = some y) : ∃ p, x = .Name y p := by cases x <;> first | exact no h | (cases h; exact ⟨_, rfl⟩)
theorem binX_inv {t : Operator × Expr × Expr} (h : binX x = some t) : ∃ p, x = .BinOp t.2.1 t.1 t.2.2 p := by cases x <;> first | exact no h | (cases h; exact ⟨_, rfl⟩)
theorem cmpX_inv {t : Expr × List CmpOp × List Expr} (h : cmpX x = some t) : ∃ p, x = .Compare t.1 t.2.1 t.2.2 p := by cases x <;> first | exact no h | (cases h; exact ⟨_, rfl⟩)
theorem boolX_inv {t : BoolOp × List Expr} (h : boolX x = some t) : ∃ p, x = .BoolOp t.1 t.2 p := by cases x <;> first | exact no h | (cases h; exact ⟨_, rfl⟩)
theorem unX_inv {t : UnaryOp × Expr} (h : unX x = some t) : ∃ p, x = .UnaryOp t.1 t.2 p := by cases x <;> first | exact no h | (cases h; exact ⟨_, rfl⟩)
theorem callX_inv {t : CallX} (h : callX x = some t) : x = .Call t.f t.as t.ks t.pos := by cases x <;> first | exact no h | (cases h; rfl)
theorem attrX_inv {t : Expr × Str × Pos} (h : attrX x = some t) : x = .Attribute t.1 t.2.1 t.2.2 := by cases x <;> first | exact no h | (cases h; rfl)
theorem subX_inv {t : Expr × Expr} (h : subX x = some t) : ∃ p, x = .Subscript t.1 t.2 p := by cases x <;> first | exact no h | (cases h; exact ⟨_, rfl⟩)
theorem sliceX_inv {t : Option Expr × Option Expr × Option Expr} (h : sliceX x = some t) : ∃ p, x = .Slice t.1 t.2.1 t.2.2 p := by cases x <;> first | exact no h | (cases h; exact ⟨_, rfl⟩)
theorem listX_inv {t : List Expr} (h : listX x = some t) : ∃ p, x = .List t p := by cases x <;> first | exact no h | (cases h; exact ⟨_, rfl⟩)
theorem tupX_inv {t : List Expr} (h : tupX x = some t) : ∃ j p, x = .Tuple t j p := by cases x <;> first | exact no h | (cases h; exact ⟨_, _, rfl⟩)
theorem dictX_inv {t : List (Option Expr) × List Expr} (h : dictX x = some t) : ∃ p, x = .Dict t.1 t.2 p := by cases x <;> first | exact no h | (cases h; exact ⟨_, rfl⟩)
theorem compX_inv {t : Expr × List Comprehension × Scope} (h : compX x = some t) : ∃ p, x = .ListComp t.1 t.2.1 t.2.2 p := by cases x <;> first | exact no h | (cases h; exact ⟨_, rfl⟩)
theorem raiseX_inv {e : Expr} (h : raiseX s = some e) : ∃ p, s = .Raise (some e) none p := by
  unfold raiseX at h
  split at h
  · cases h; exact ⟨_, rfl⟩
  · cases h
theorem tryX_inv {t : List Stmt × List ExceptHandler} (h : tryX s = some t) : ∃ p, s = .Try t.1 t.2 [] [] p := by
  unfold tryX at h
  split at h
  · cases h; exact ⟨_, rfl⟩
  · cases h
theorem handX_inv {hs : List ExceptHandler} {u : HandX} (h : handX hs = some u) : ∃ p, hs = [.ExceptHandler (some u.t) (some u.n) u.b p] := by
  unfold handX at h
  split at h
  · cases h; exact ⟨_, rfl⟩
  · cases h
theorem noneC_inv (h : isNoneC k = true) : k = .none := by cases k <;> first | rfl | exact noB h
theorem boolC_inv {b : Bool} (h : boolC k = some b) : k = .bool b := by cases k <;> first | exact no h | (cases h; rfl)
theorem intC_inv {b : Int} (h : intC k = some b) : k = .int b := by cases k <;> first | exact no h | (cases h; rfl)
theorem strC_inv {b : Str} (h : strC k = some b) : k = .str b := by cases k <;> first | exact no h | (cases h; rfl)
theorem cnone_inv (h : onB (constX x) isNoneC = true) : ∃ j p, x = .Constant .none j p := by
  obtain ⟨k, e, h⟩ := onB_inv h
  obtain ⟨j, p, rfl⟩ := constX_inv e
  cases noneC_inv h
  exact ⟨j, p, rfl⟩
theorem exprX_inv {v : Expr} (h : exprX s = some v) : ∃ p, s = .Expr v p := by cases s <;> first | exact no h | (cases h; exact ⟨_, rfl⟩)
theorem assignX_inv {t : List Expr × Expr} (h : assignX s = some t) : ∃ p, s = .Assign t.1 t.2 p := by cases s <;> first | exact no h | (cases h; exact ⟨_, rfl⟩)
theorem ifX_inv {t : Expr × List Stmt × List Stmt} (h : ifX s = some t) : ∃ p, s = .If t.1 t.2.1 t.2.2 p := by cases s <;> first | exact no h | (cases h; exact ⟨_, rfl⟩)
theorem forX_inv {t : ForX} (h : forX s = some t) : ∃ p, s = .For t.t t.i t.b t.e p := by cases s <;> first | exact no h | (cases h; exact ⟨_, rfl⟩)
theorem retX_inv {v : Option Expr} (h : retX s = some v) : ∃ p, s = .Return v p := by cases s <;> first | exact no h | (cases h; exact ⟨_, rfl⟩)
end
theorem isCNone_eq {e : E} (h : isCNone e = true) : e = .cNone := by cases e <;> first | rfl | exact noB h
theorem isCTrue_eq {e : E} (h : isCTrue e = true) : e = .cBool true := by
  cases e with
  | cBool b => cases b with
    | true => rfl
    | false => exact noB h
  | _ => exact noB h
theorem okKeys_R : ∀ {ks : List Str} {es : List (Option Expr)}, okKeys ks es = true → KeysR ks es
  | [], [], _ => .nil
  | [], _ :: _, h => noB h
  | _ :: _, [], h => noB h
  | k :: ks, e :: r, h => by
    obtain ⟨h1, h2⟩ := and_inv h
    obtain ⟨e', e0, h3⟩ := onB_inv h1
    obtain ⟨c, e1, h4⟩ := onB_inv h3
    obtain ⟨s, e2, h5⟩ := onB_inv h4
    obtain ⟨j, p, e6⟩ := constX_inv e1
    cases strC_inv e2
    cases eq_inv h5
    cases e0; cases e6
    exact .cons ⟨_, _, rfl⟩ (okKeys_R h2)
theorem lookup_nodup {β : Type} {l : List (Str × β)} {z : Str × β} (hn : (l.map (·.1)).Nodup) (hz : z ∈ l) : l.lookup z.1 = some z.2 := by
  induction l with
  | nil => exact nomatch hz
  | cons p r ih =>
    obtain ⟨hn1, hn2⟩ := List.nodup_cons.mp hn
    rcases List.mem_cons.mp hz with rfl | hz
    · exact look_self
    · exact (look_cons fun e => hn1 (List.mem_map.mpr ⟨z, hz, e⟩)).trans (ih hn2 hz)
theorem compOk_R {cx : Cxt} {s : Scope} {x : Str} {k : Nat} (h : cx.compOk s x k = true) : CompOK cx s x k := by
  unfold Cxt.compOk at h
  simp only [Bool.and_eq_true, beq_iff_eq, Bool.not_eq_true', decide_eq_true_eq, List.all_eq_true, bne_iff_ne, Bool.or_eq_true] at h
  obtain ⟨⟨⟨⟨⟨⟨⟨⟨⟨_, h2⟩, _⟩, _⟩, _⟩, h6⟩, _⟩, h8⟩, h9⟩, h10⟩ := h
  refine ⟨h2, h6, h8, fun z hz hf => ?_, fun z hz hc => ?_, fun z hz hl => (lookup_nodup h10 hz).trans (congrArg some hl)⟩
  · rcases h9 z hz with (⟨q, _⟩ | ⟨_, q⟩) | q
    · rw [hf] at q; cases q
    · exact q
    · rw [hf] at q; cases q
  · rcases h9 z hz with (⟨q, _⟩ | ⟨q, _⟩) | q <;> rw [hc] at q <;> cases q
section
variable {G : Gl} {n : Nat}
theorem Stc.inner {cx : Cxt} (T : Stc G n cx) (s : Scope) (x : Str) (k : Nat) : Stc G n (cx.inner s x k) := ⟨T.fcall, T.new, T.meth, T.exc, T.bfn, T.gi, T.so, T.sp⟩
noncomputable def TyName (G : Gl) (n : Nat) (cx : Cxt) (t : Ty) (p2 : Pos) : Prop := ∃ tv, tyVal G.K t = some tv ∧ ∀ (X : Pt G n cx) (Ex Q : Value → Shared → Prop), Q tv X.s → wpAny G.M X.A (eval (.Name (Str.ofString (tyName t)) p2) X.env) Q Ex X.s
theorem Stc.tybi {cx : Cxt} {t : Ty} {p2 : Pos} {tv : Value} (T : Stc G n cx) (hg : cx.isGlob (Str.ofString (tyName t)) = true) (ht : cx.bifs.contains (tyName t) = true) (hv : tyVal G.K t = some tv) (hb : bootBuiltins (Str.ofString (tyName t)) = some tv) (hx : Str.ofString (tyName t) ≠ "__name__") : TyName G n cx t p2 :=
  ⟨tv, hv, fun X _ _ hQ => glob_bi X hg (T.bfn _ (List.contains_iff_mem.mp ht)) hb hx hQ⟩
theorem Stc.tyname {cx : Cxt} {t : Ty} {p2 : Pos} (T : Stc G n cx) (hg : cx.isGlob (Str.ofString (tyName t)) = true) (ht : tyOk cx t = true) : TyName G n cx t p2 := by
  cases t with
  | own k =>
    have : ∃ C, clsAt G.K k = some C := by
      rcases Bool.or_eq_true_iff.mp ht with q | q
      · obtain ⟨_, C, _, e, _⟩ := T.new k (List.contains_iff_mem.mp q); exact ⟨C, e⟩
      · exact (T.exc k (List.contains_iff_mem.mp q)).2
    obtain ⟨C, hC⟩ := this
    exact ⟨.ref C, congrArg (Option.map Value.ref) hC, fun X Ex Q hQ => glob_name X hg (clsAt_inv hC) hQ⟩
  | int => exact T.tybi hg ht rfl (by kernel_rfl) (by decide)
  | bool => exact T.tybi hg ht rfl (by kernel_rfl) (by decide)
  | str => exact T.tybi hg ht rfl (by kernel_rfl) (by decide)
  | tuple => exact T.tybi hg ht rfl (by kernel_rfl) (by decide)
  | list => exact T.tybi hg ht rfl (by kernel_rfl) (by decide)
  | valueError => exact T.tybi hg ht rfl (by kernel_rfl) (by decide)
theorem Stc.tyin {cx : Cxt} {t : Ty} (T : Stc G n cx) (ht : tyOk cx t = true) : ∀ d, t = .own d → d ∈ G.com.excs ∨ d ∈ G.com.cls := fun d e => by
  subst e
  rcases Bool.or_eq_true_iff.mp ht with q | q
  · exact .inr (T.new d (List.contains_iff_mem.mp q)).1
  · exact .inl (T.exc d (List.contains_iff_mem.mp q)).1
noncomputable def CompR (G : Gl) (n : Nat) (cx : Cxt) (elt : E) (k : Nat) (it cond : E) (x : Expr) : Prop := ∃ ee y px ie ifs scope pos, x = .ListComp ee [⟨.Name y px, ie, ifs, 0⟩] scope pos ∧ notSetE ie = true ∧ CompOK cx scope y k ∧ Sim G n cx it ie ∧ Sim G n (cx.inner scope y k) elt ee ∧
  ((ifs = [] ∧ cond = .cBool true) ∨ ∃ e, ifs = [e] ∧ Sim G n (cx.inner scope y k) cond e)
theorem CompR.sim {cx : Cxt} {mt : Bool} {elt it cond : E} {k : Nat} {x : Expr} (h : CompR G n cx elt k it cond x) : Sim G n cx (.comp mt elt k it cond) x := by
  obtain ⟨ee, y, px, ie, ifs, scope, pos, rfl, h1, h2, h3, h4, h5⟩ := h
  exact sim_comp h1 h2 h3 h4 h5
theorem SimP.of {cx : Cxt} {a : E} {l : Option Expr} (h : optB l (isCNone a) (fun e => okE cx a e) = true) (k : ∀ e, okE cx a e = true → Sim G n cx a e) : SimP G n cx a l := by
  cases l with
  | none => exact .inl ⟨rfl, isCNone_eq h⟩
  | some e => exact .inr ⟨e, rfl, k e h⟩
theorem minus_sim {cx : Cxt} {e : Expr} (h : minus1 e = true) : Sim G n cx (.neg (.cInt 1)) e := by
  obtain ⟨t, e1, h⟩ := onB_inv h
  obtain ⟨h1, h⟩ := and_inv h
  obtain ⟨k, e2, h⟩ := onB_inv h
  obtain ⟨i, e3, h⟩ := onB_inv h
  obtain ⟨p, rfl⟩ := unX_inv e1
  obtain ⟨o, v⟩ := t
  cases eq_inv h1
  obtain ⟨j, q, e4⟩ := constX_inv e2
  cases e4
  cases intC_inv e3
  cases eq_inv h
  exact sim_neg sim_cInt
theorem compL_R {cx : Cxt} {elt it cond : E} {k : Nat} {x : Expr} (h : okE cx (.comp true elt k it cond) x = true) (k1 : ∀ e, okE cx it e = true → Sim G n cx it e) (k2 : ∀ s y e, okE (cx.inner s y k) elt e = true → Sim G n (cx.inner s y k) elt e) (k3 : ∀ s y e, okE (cx.inner s y k) cond e = true → Sim G n (cx.inner s y k) cond e) : CompR G n cx elt k it cond x := by
  obtain ⟨⟨ee, gs, scope⟩, e1, h⟩ := onB_inv h
  obtain ⟨⟨tg, ie, ifs, asy⟩, e2, h⟩ := onB_inv h
  obtain ⟨y, e3, h⟩ := onB_inv h
  obtain ⟨p, rfl⟩ := compX_inv e1
  cases one_inv e2
  obtain ⟨px, e4⟩ := nameX_inv e3
  cases e4
  obtain ⟨h1, h⟩ := and_inv h
  cases eq_inv h1
  obtain ⟨h2, h⟩ := and_inv h
  obtain ⟨h3, h⟩ := and_inv h
  obtain ⟨h4, h⟩ := and_inv h
  obtain ⟨h5, h⟩ := and_inv h
  refine ⟨ee, y, px, ie, ifs, scope, p, rfl, h2, compOk_R h3, k1 _ h4, k2 _ _ _ h5, (Bool.or_eq_true_iff.mp h).imp (fun q => ?_) fun q => ?_⟩
  · obtain ⟨q1, q2⟩ := and_inv q; exact ⟨nil_inv q1, isCTrue_eq q2⟩
  · obtain ⟨e, e5, q⟩ := onB_inv q; exact ⟨e, one_inv e5, k3 _ _ _ q⟩
end
end Lw
namespace Lw
open PySem PySem.W PySem.Calls PyProof.Rows
section
variable {G : Gl} {n : Nat}
mutual
theorem okE_sim : ∀ (e : E) (cx : Cxt) (x : Expr), Stc G n cx → okE cx e x = true → Sim G n cx e x
  | .cNone, cx, x, T, h => by
    obtain ⟨j, p, rfl⟩ := cnone_inv h
    exact sim_cNone
  | .cBool b, cx, x, T, h => by
    replace h := onB_inv h; obtain ⟨k, e1, h⟩ := h
    obtain ⟨j, p, rfl⟩ := constX_inv e1
    replace h := onB_inv h; obtain ⟨i, e2, h⟩ := h
    cases boolC_inv e2
    cases eq_inv h
    exact sim_cBool
  | .cInt b, cx, x, T, h => by
    replace h := onB_inv h; obtain ⟨k, e1, h⟩ := h
    obtain ⟨j, p, rfl⟩ := constX_inv e1
    replace h := onB_inv h; obtain ⟨i, e2, h⟩ := h
    cases intC_inv e2
    cases eq_inv h
    exact sim_cInt
  | .cStr b, cx, x, T, h => by
    replace h := onB_inv h; obtain ⟨k, e1, h⟩ := h
    obtain ⟨j, p, rfl⟩ := constX_inv e1
    replace h := onB_inv h; obtain ⟨i, e2, h⟩ := h
    replace h := and_inv h; obtain ⟨h1, h⟩ := h
    cases strC_inv e2
    cases eq_inv h1
    exact sim_cStr h
  | .var k, cx, x, T, h => by
    replace h := onB_inv h; obtain ⟨y, e1, h⟩ := h
    obtain ⟨p, rfl⟩ := nameX_inv e1
    replace h := and_inv h; obtain ⟨h1, h⟩ := h
    replace h := and_inv h; obtain ⟨h2, h⟩ := h
    replace h := and_inv h; obtain ⟨h3, h4⟩ := h
    exact sim_var (eq_inv h1) h2 ((Bool.not_eq_true' _).mp h3) ((Bool.not_eq_true' _).mp h4)
  | .gint g i, cx, x, T, h => by
    replace h := onB_inv h; obtain ⟨y, e1, h⟩ := h
    obtain ⟨p, rfl⟩ := nameX_inv e1
    replace h := and_inv h; obtain ⟨h1, h⟩ := h
    replace h := and_inv h; obtain ⟨h2, h3⟩ := h
    cases eq_inv h1
    obtain ⟨t, ht⟩ := T.gi g i (List.contains_iff_mem.mp h3)
    exact sim_gint h2 ht
  | .bin op a b, cx, x, T, h => by
    replace h := onB_inv h; obtain ⟨⟨o, l, r⟩, e1, h⟩ := h
    obtain ⟨p, rfl⟩ := binX_inv e1
    replace h := and_inv h; obtain ⟨h1, h⟩ := h
    replace h := and_inv h; obtain ⟨h2, h3⟩ := h
    cases eq_inv h1
    exact sim_bin (okE_sim a cx l T h2) (okE_sim b cx r T h3)
  | .cmp op a b, cx, x, T, h => by
    replace h := onB_inv h; obtain ⟨⟨l, os, rs⟩, e1, h⟩ := h
    obtain ⟨p, rfl⟩ := cmpX_inv e1
    replace h := onB_inv h; obtain ⟨o, e2, h⟩ := h
    replace h := onB_inv h; obtain ⟨r, e3, h⟩ := h
    cases one_inv e2
    cases one_inv e3
    replace h := and_inv h; obtain ⟨h1, h⟩ := h
    replace h := and_inv h; obtain ⟨h2, h⟩ := h
    replace h := and_inv h; obtain ⟨h3, h4⟩ := h
    cases eq_inv h1
    exact sim_cmp h2 (okE_sim a cx l T h3) (okE_sim b cx r T h4)
  | .chain a b d, cx, x, T, h => by
    replace h := onB_inv h; obtain ⟨⟨l, os, rs⟩, e1, h⟩ := h
    obtain ⟨p, rfl⟩ := cmpX_inv e1
    replace h := onB_inv h; obtain ⟨⟨o1, o2⟩, e2, h⟩ := h
    replace h := onB_inv h; obtain ⟨⟨r1, r2⟩, e3, h⟩ := h
    cases two_inv e2
    cases two_inv e3
    replace h := and_inv h; obtain ⟨h1, h⟩ := h
    replace h := and_inv h; obtain ⟨h2, h⟩ := h
    replace h := and_inv h; obtain ⟨h3, h⟩ := h
    replace h := and_inv h; obtain ⟨h4, h5⟩ := h
    obtain ⟨h6, h7⟩ := and_inv h1
    cases eq_inv h6
    cases eq_inv h7
    exact sim_chain h2 (okE_sim a cx l T h3) (okE_sim b cx r1 T h4) (okE_sim d cx r2 T h5)
  | .isNone a, cx, x, T, h => by
    replace h := onB_inv h; obtain ⟨⟨l, os, rs⟩, e1, h⟩ := h
    obtain ⟨p, rfl⟩ := cmpX_inv e1
    replace h := onB_inv h; obtain ⟨o, e2, h⟩ := h
    replace h := onB_inv h; obtain ⟨r, e3, h⟩ := h
    cases one_inv e2
    cases one_inv e3
    replace h := and_inv h; obtain ⟨h1, h⟩ := h
    replace h := and_inv h; obtain ⟨h2, h3⟩ := h
    cases eq_inv h1
    obtain ⟨j, q, rfl⟩ := cnone_inv h2
    exact sim_isNone (okE_sim a cx l T h3)
  | .notNone a, cx, x, T, h => by
    replace h := onB_inv h; obtain ⟨⟨l, os, rs⟩, e1, h⟩ := h
    obtain ⟨p, rfl⟩ := cmpX_inv e1
    replace h := onB_inv h; obtain ⟨o, e2, h⟩ := h
    replace h := onB_inv h; obtain ⟨r, e3, h⟩ := h
    cases one_inv e2
    cases one_inv e3
    replace h := and_inv h; obtain ⟨h1, h⟩ := h
    replace h := and_inv h; obtain ⟨h2, h3⟩ := h
    cases eq_inv h1
    obtain ⟨j, q, rfl⟩ := cnone_inv h2
    exact sim_notNone (okE_sim a cx l T h3)
  | .bool isAnd es, cx, x, T, h => by
    replace h := onB_inv h; obtain ⟨⟨o, vs⟩, e1, h⟩ := h
    obtain ⟨p, rfl⟩ := boolX_inv e1
    replace h := and_inv h; obtain ⟨h1, h2⟩ := h
    cases (eq_inv h1 : o = opB isAnd)
    exact sim_bool (okEs_sim es cx vs T h2)
  | .not a, cx, x, T, h => by
    replace h := onB_inv h; obtain ⟨⟨o, l⟩, e1, h⟩ := h
    obtain ⟨p, rfl⟩ := unX_inv e1
    replace h := and_inv h; obtain ⟨h1, h2⟩ := h
    cases eq_inv h1
    exact sim_not (okE_sim a cx l T h2)
  | .neg a, cx, x, T, h => by
    replace h := onB_inv h; obtain ⟨⟨o, l⟩, e1, h⟩ := h
    obtain ⟨p, rfl⟩ := unX_inv e1
    replace h := and_inv h; obtain ⟨h1, h2⟩ := h
    cases eq_inv h1
    exact sim_neg (okE_sim a cx l T h2)
  | .fcall f args, cx, x, T, h => by
    replace h := onB_inv h; obtain ⟨⟨fe, as, ks, p⟩, e1, h⟩ := h
    cases callX_inv e1
    replace h := onB_inv h; obtain ⟨y, e2, h⟩ := h
    obtain ⟨q, e3⟩ := nameX_inv e2
    cases e3
    replace h := and_inv h; obtain ⟨h1, h⟩ := h
    replace h := and_inv h; obtain ⟨h2, h⟩ := h
    replace h := and_inv h; obtain ⟨h3, h⟩ := h
    replace h := and_inv h; obtain ⟨h4, h5⟩ := h
    cases eq_inv h1
    cases nil_inv h4
    obtain ⟨a, e1, e2, e3⟩ := T.fcall f (List.contains_iff_mem.mp h3)
    exact sim_fcall h2 e1 e2 e3 (okEs_sim args cx as T h5)
  | .new k args kwn kwe, cx, x, T, h => by
    replace h := onB_inv h; obtain ⟨⟨fe, as, ks, p⟩, e1, h⟩ := h
    cases callX_inv e1
    replace h := onB_inv h; obtain ⟨y, e2, h⟩ := h
    obtain ⟨q, e3⟩ := nameX_inv e2
    cases e3
    replace h := and_inv h; obtain ⟨h1, h⟩ := h
    replace h := and_inv h; obtain ⟨h2, h⟩ := h
    replace h := and_inv h; obtain ⟨h3, h⟩ := h
    replace h := and_inv h; obtain ⟨h4, h5⟩ := h
    cases eq_inv h1
    obtain ⟨e0, C, a, e1, e2, e3, e4⟩ := T.new k (List.contains_iff_mem.mp h3)
    exact sim_new h2 e0 e1 e2 e3 e4 (okEs_sim args cx as T h4) (okKs_sim kwe kwn cx ks T h5)
  | .mcall o m args kwn kwe, cx, x, T, h => by
    replace h := onB_inv h; obtain ⟨⟨fe, as, ks, p⟩, e1, h⟩ := h
    cases callX_inv e1
    replace h := onB_inv h; obtain ⟨⟨oe, y, ap⟩, e2, h⟩ := h
    cases attrX_inv e2
    replace h := and_inv h; obtain ⟨h1, h⟩ := h
    replace h := and_inv h; obtain ⟨h2, h⟩ := h
    replace h := and_inv h; obtain ⟨h3, h⟩ := h
    replace h := and_inv h; obtain ⟨h4, h⟩ := h
    replace h := and_inv h; obtain ⟨h5, h⟩ := h
    replace h := and_inv h; obtain ⟨h6, h⟩ := h
    replace h := and_inv h; obtain ⟨h7, h8⟩ := h
    cases eq_inv h1
    exact sim_mcall h2 h3 (of_decide_eq_true h4) (of_decide_eq_true h5) (fun cc fn hcc hfn => T.meth cc m fn hcc hfn) (okE_sim o cx oe T h6) (okEs_sim args cx as T h7) (okKs_sim kwe kwn cx ks T h8)
  | .bcall f args, cx, x, T, h => by
    replace h := onB_inv h; obtain ⟨⟨fe, as, ks, p⟩, e1, h⟩ := h
    cases callX_inv e1
    replace h := onB_inv h; obtain ⟨y, e2, h⟩ := h
    obtain ⟨q, e3⟩ := nameX_inv e2
    cases e3
    replace h := and_inv h; obtain ⟨h1, h⟩ := h
    replace h := and_inv h; obtain ⟨h2, h⟩ := h
    replace h := and_inv h; obtain ⟨h3, h⟩ := h
    replace h := and_inv h; obtain ⟨h4, h⟩ := h
    replace h := and_inv h; obtain ⟨h5, h6⟩ := h
    cases eq_inv h1
    cases nil_inv h5
    exact sim_bcall (fun pr mt e => by
      subst e
      cases pr with
      | false => exact T.so
      | true => exact T.sp (List.contains_iff_mem.mp h4)) h2 (T.bfn _ (List.contains_iff_mem.mp h3)) (okEs_sim args cx as T h6)
  | .bmeth m o args, cx, x, T, h => by
    replace h := onB_inv h; obtain ⟨⟨fe, as, ks, p⟩, e1, h⟩ := h
    cases callX_inv e1
    replace h := onB_inv h; obtain ⟨⟨oe, y, ap⟩, e2, h⟩ := h
    cases attrX_inv e2
    replace h := and_inv h; obtain ⟨h1, h⟩ := h
    replace h := and_inv h; obtain ⟨h2, h⟩ := h
    replace h := and_inv h; obtain ⟨h3, h⟩ := h
    replace h := and_inv h; obtain ⟨h4, h⟩ := h
    replace h := and_inv h; obtain ⟨h5, h⟩ := h
    replace h := and_inv h; obtain ⟨h6, h7⟩ := h
    cases eq_inv h1
    cases nil_inv h5
    exact sim_bmeth h2 h3 (of_decide_eq_true h4) (okE_sim o cx oe T h6) (okEs_sim args cx as T h7)
  | .isinst a t, cx, x, T, h => by
    replace h := onB_inv h; obtain ⟨⟨fe, as, ks, p⟩, e1, h⟩ := h
    cases callX_inv e1
    replace h := onB_inv h; obtain ⟨y, e2, h⟩ := h
    obtain ⟨q, e3⟩ := nameX_inv e2
    cases e3
    replace h := onB_inv h; obtain ⟨⟨v1, v2⟩, e4, h⟩ := h
    cases two_inv e4
    replace h := onB_inv h; obtain ⟨z, e5, h⟩ := h
    obtain ⟨p2, e6⟩ := nameX_inv e5
    cases e6
    replace h := and_inv h; obtain ⟨h1, h⟩ := h
    replace h := and_inv h; obtain ⟨h2, h⟩ := h
    replace h := and_inv h; obtain ⟨h3, h⟩ := h
    replace h := and_inv h; obtain ⟨h4, h⟩ := h
    replace h := and_inv h; obtain ⟨h5, h⟩ := h
    replace h := and_inv h; obtain ⟨h6, h⟩ := h
    replace h := and_inv h; obtain ⟨h7, h⟩ := h
    replace h := and_inv h; obtain ⟨h8, h9⟩ := h
    cases eq_inv h1
    cases eq_inv h5
    cases nil_inv h8
    obtain ⟨tv, ht, hname⟩ := T.tyname (p2 := p2) h6 h7
    exact sim_isinst h2 (T.bfn "isinstance" (List.contains_iff_mem.mp h3)) h4 ht (T.tyin h7) hname (okE_sim a cx v1 T h9)
  | .attr o a, cx, x, T, h => by
    replace h := onB_inv h; obtain ⟨⟨oe, y, ap⟩, e2, h⟩ := h
    cases attrX_inv e2
    replace h := and_inv h; obtain ⟨h1, h⟩ := h
    replace h := and_inv h; obtain ⟨h2, h⟩ := h
    replace h := and_inv h; obtain ⟨h3, h4⟩ := h
    cases eq_inv h1
    exact sim_attr h3 h2 (okE_sim o cx oe T h4)
  | .idx o i, cx, x, T, h => by
    replace h := onB_inv h; obtain ⟨⟨oe, ie⟩, e1, h⟩ := h
    obtain ⟨p, rfl⟩ := subX_inv e1
    replace h := and_inv h; obtain ⟨h1, h⟩ := h
    replace h := and_inv h; obtain ⟨h2, h3⟩ := h
    exact sim_idx h1 (okE_sim o cx oe T h2) (okE_sim i cx ie T h3)
  | .slice mt o lo hi, cx, x, T, h => by
    replace h := onB_inv h; obtain ⟨⟨oe, ie⟩, e1, h⟩ := h
    obtain ⟨p, rfl⟩ := subX_inv e1
    replace h := onB_inv h; obtain ⟨⟨l1, l2, l3⟩, e2, h⟩ := h
    obtain ⟨q, e3⟩ := sliceX_inv e2
    cases e3
    replace h := and_inv h; obtain ⟨h1, h⟩ := h
    replace h := and_inv h; obtain ⟨h2, h⟩ := h
    replace h := and_inv h; obtain ⟨h3, h4⟩ := h
    cases none_inv h1
    exact sim_slice (okE_sim o cx oe T h2) (.of h3 fun e => okE_sim lo cx e T) (.of h4 fun e => okE_sim hi cx e T)
  | .rev mt o, cx, x, T, h => by
    replace h := onB_inv h; obtain ⟨⟨oe, ie⟩, e1, h⟩ := h
    obtain ⟨p, rfl⟩ := subX_inv e1
    replace h := onB_inv h; obtain ⟨⟨l1, l2, l3⟩, e2, h⟩ := h
    obtain ⟨q, e3⟩ := sliceX_inv e2
    cases e3
    replace h := and_inv h; obtain ⟨h1, h⟩ := h
    replace h := and_inv h; obtain ⟨h2, h⟩ := h
    replace h := and_inv h; obtain ⟨h3, h4⟩ := h
    cases none_inv h1
    cases none_inv h2
    obtain ⟨se, e4, h5⟩ := onB_inv h3
    cases e4
    exact sim_rev (okE_sim o cx oe T h4) (minus_sim h5)
  | .list mt es, cx, x, T, h => by
    replace h := onB_inv h; obtain ⟨vs, e1, h⟩ := h
    obtain ⟨p, rfl⟩ := listX_inv e1
    exact sim_list (okEs_sim es cx vs T h)
  | .tup es, cx, x, T, h => by
    replace h := onB_inv h; obtain ⟨vs, e1, h⟩ := h
    obtain ⟨j, p, rfl⟩ := tupX_inv e1
    exact sim_tup (okEs_sim es cx vs T h)
  | .dict0 b, cx, x, T, h => by
    replace h := onB_inv h; obtain ⟨⟨ks, vs⟩, e1, h⟩ := h
    obtain ⟨p, rfl⟩ := dictX_inv e1
    replace h := and_inv h; obtain ⟨h1, h2⟩ := h
    cases nil_inv h1
    cases nil_inv h2
    exact sim_dict0
  | .dict ks vs, cx, x, T, h => by
    replace h := onB_inv h; obtain ⟨⟨ke, ve⟩, e1, h⟩ := h
    obtain ⟨p, rfl⟩ := dictX_inv e1
    replace h := and_inv h; obtain ⟨h1, h⟩ := h
    replace h := and_inv h; obtain ⟨h2, h⟩ := h
    replace h := and_inv h; obtain ⟨h3, h⟩ := h
    replace h := and_inv h; obtain ⟨h4, h⟩ := h
    replace h := and_inv h; obtain ⟨h5, h⟩ := h
    replace h := and_inv h; obtain ⟨h6, h7⟩ := h
    exact sim_dict (okKeys_R h4) (okEs_sim vs cx ve T h7) (eq_inv h3).symm (fun e => by rw [e] at h1; cases h1) (of_decide_eq_true h2) (of_decide_eq_true h6) (List.all_eq_true.mp h5)
  | .comp mt elt k it cond, cx, x, T, h => CompR.sim (compL_R h (fun e => okE_sim it cx e T) (fun s y e => okE_sim elt _ e (T.inner s y k)) fun s y e => okE_sim cond _ e (T.inner s y k))
termination_by structural e => e
theorem okEs_sim : ∀ (es : List E) (cx : Cxt) (xs : List Expr), Stc G n cx → okEs cx es xs = true → Sims G n cx es xs
  | [], cx, [], T, h => .nil
  | [], cx, _ :: _, T, h => noB h
  | _ :: _, cx, [], T, h => noB h
  | a :: r, cx, x :: xs, T, h => by
    replace h := and_inv h; obtain ⟨h1, h⟩ := h
    replace h := and_inv h; obtain ⟨h2, h3⟩ := h
    exact .cons ⟨h1, okE_sim a cx x T h2⟩ (okEs_sim r cx xs T h3)
termination_by structural es => es
theorem okKs_sim : ∀ (es : List E) (kn : List String) (cx : Cxt) (ks : List Keyword), Stc G n cx → okKs cx kn es ks = true → SimKs G n cx kn es ks
  | [], [], cx, [], T, h => .nil
  | [], _ :: _, cx, _, T, h => noB h
  | [], [], cx, _ :: _, T, h => noB h
  | _ :: _, [], cx, _, T, h => noB h
  | _ :: _, _ :: _, cx, [], T, h => noB h
  | a :: r, y :: ys, cx, ⟨arg, e, p⟩ :: ks, T, h => by
    replace h := and_inv h; obtain ⟨h1, h⟩ := h
    replace h := and_inv h; obtain ⟨h2, h3⟩ := h
    cases eq_inv h1
    exact .cons (okE_sim a cx e T h2) (okKs_sim r ys cx ks T h3)
termination_by structural es => es
end
theorem tgt_inv {cx : Cxt} {x : Str} {k : Nat} (h : cx.tgt x k = true) : cx.vis.lookup x = some k ∧ (cx.scope.names.lookup x = some .local ∨ cx.scope.names.lookup x = some .cell) :=
  let ⟨h1, h2⟩ := and_inv h
  ⟨eq_inv h1, (Bool.or_eq_true_iff.mp h2).imp eq_inv eq_inv⟩
theorem tgtL_inv {cx : Cxt} {x : Str} {k : Nat} (h : cx.tgtL x k = true) : cx.vis.lookup x = some k ∧ cx.scope.names.lookup x = some .local := let ⟨h1, h2⟩ := and_inv h; ⟨eq_inv h1, eq_inv h2⟩
theorem assign_sim {cx : Cxt} {e : E} {k : Nat} {x : Str} {v : Expr} {p pos : Pos} (T : Stc G n cx) (V : VisOK cx.vis) (ht : cx.tgt x k = true) (hc : (notComp v || isComp e) = true) (h : okE cx e v = true) : SimS G n cx (.assign k e) (.Assign [.Name x p] v pos) := by
  obtain ⟨t1, t2⟩ := tgt_inv ht
  cases hn : notComp v with
  | true => exact sim_assign V t1 t2 hn (okE_sim e cx v T h)
  | false =>
    rw [hn] at hc
    cases e with
    | comp mt elt k' it cond =>
      obtain ⟨ee, y, px, ie, ifs, scope, cpos, rfl, h1, h2, h3, h4, h5⟩ := compL_R (G := G) (n := n) (k := k') (elt := elt) (it := it) (cond := cond) h (fun e => okE_sim it cx e T) (fun s y e => okE_sim elt _ e (T.inner s y k')) fun s y e => okE_sim cond _ e (T.inner s y k')
      exact sim_assignC V t1 t2 h1 h2 h3 h4 h5
    | _ => exact noB hc
mutual
theorem okS_sim : ∀ (s : S) (cx : Cxt) (x : Stmt), Stc G n cx → VisOK cx.vis → okS cx s x = true → SimS G n cx s x
  | .expr e, cx, x, T, V, h => by
    replace h := onB_inv h; obtain ⟨v, e1, h⟩ := h
    obtain ⟨p, rfl⟩ := exprX_inv e1
    replace h := and_inv h; obtain ⟨h1, h2⟩ := h
    exact sim_expr h1 (okE_sim e cx v T h2)
  | .assign k e, cx, x, T, V, h => by
    replace h := onB_inv h; obtain ⟨⟨ts, v⟩, e1, h⟩ := h
    obtain ⟨p, rfl⟩ := assignX_inv e1
    replace h := onB_inv h; obtain ⟨g, e2, h⟩ := h
    cases one_inv e2
    replace h := onB_inv h; obtain ⟨y, e3, h⟩ := h
    obtain ⟨q, rfl⟩ := nameX_inv e3
    replace h := and_inv h; obtain ⟨h1, h⟩ := h
    replace h := and_inv h; obtain ⟨h2, h3⟩ := h
    exact assign_sim T V h1 h2 h3
  | .setattr o a e, cx, x, T, V, h => by
    replace h := onB_inv h; obtain ⟨⟨ts, v⟩, e1, h⟩ := h
    obtain ⟨p, rfl⟩ := assignX_inv e1
    replace h := onB_inv h; obtain ⟨g, e2, h⟩ := h
    cases one_inv e2
    replace h := onB_inv h; obtain ⟨⟨oe, y, ap⟩, e3, h⟩ := h
    cases attrX_inv e3
    replace h := and_inv h; obtain ⟨h1, h⟩ := h
    replace h := and_inv h; obtain ⟨h2, h⟩ := h
    replace h := and_inv h; obtain ⟨h3, h⟩ := h
    replace h := and_inv h; obtain ⟨h4, h5⟩ := h
    cases eq_inv h1
    exact sim_setattr h2 h3 (okE_sim o cx oe T h4) (okE_sim e cx v T h5)
  | .setidx o i e, cx, x, T, V, h => by
    replace h := onB_inv h; obtain ⟨⟨ts, v⟩, e1, h⟩ := h
    obtain ⟨p, rfl⟩ := assignX_inv e1
    replace h := onB_inv h; obtain ⟨g, e2, h⟩ := h
    cases one_inv e2
    replace h := onB_inv h; obtain ⟨⟨oe, ie⟩, e3, h⟩ := h
    obtain ⟨q, rfl⟩ := subX_inv e3
    replace h := and_inv h; obtain ⟨h1, h⟩ := h
    replace h := and_inv h; obtain ⟨h2, h⟩ := h
    replace h := and_inv h; obtain ⟨h3, h4⟩ := h
    exact sim_setidx h1 (okE_sim o cx oe T h2) (okE_sim i cx ie T h3) (okE_sim e cx v T h4)
  | .ite t a b, cx, x, T, V, h => by
    replace h := onB_inv h; obtain ⟨⟨te, as, bs⟩, e1, h⟩ := h
    obtain ⟨p, rfl⟩ := ifX_inv e1
    replace h := and_inv h; obtain ⟨h1, h⟩ := h
    replace h := and_inv h; obtain ⟨h2, h3⟩ := h
    exact sim_ite (okE_sim t cx te T h1) (okSs_sim a cx as T V h2) (okSs_sim b cx bs T V h3)
  | .for1 k it b, cx, x, T, V, h => by
    replace h := onB_inv h; obtain ⟨⟨tg, ie, bs, es⟩, e1, h⟩ := h
    obtain ⟨p, rfl⟩ := forX_inv e1
    replace h := onB_inv h; obtain ⟨y, e3, h⟩ := h
    obtain ⟨q, e4⟩ := nameX_inv e3
    cases e4
    replace h := and_inv h; obtain ⟨h1, h⟩ := h
    replace h := and_inv h; obtain ⟨h2, h⟩ := h
    replace h := and_inv h; obtain ⟨h3, h⟩ := h
    replace h := and_inv h; obtain ⟨h4, h5⟩ := h
    cases nil_inv h3
    obtain ⟨t1, t2⟩ := tgt_inv h1
    exact sim_for1 V t1 t2 h2 (okE_sim it cx ie T h4) (okSs_sim b cx bs T V h5)
  | .for2 k1 k2 it b, cx, x, T, V, h => by
    replace h := onB_inv h; obtain ⟨⟨tg, ie, bs, es⟩, e1, h⟩ := h
    obtain ⟨p, rfl⟩ := forX_inv e1
    replace h := onB_inv h; obtain ⟨ts, e2, h⟩ := h
    obtain ⟨j, q, e3⟩ := tupX_inv e2
    cases e3
    replace h := onB_inv h; obtain ⟨⟨g1, g2⟩, e4, h⟩ := h
    cases two_inv e4
    replace h := onB_inv h; obtain ⟨y1, e5, h⟩ := h
    obtain ⟨q1, e6⟩ := nameX_inv e5
    cases e6
    replace h := onB_inv h; obtain ⟨y2, e7, h⟩ := h
    obtain ⟨q2, e8⟩ := nameX_inv e7
    cases e8
    replace h := and_inv h; obtain ⟨h1, h⟩ := h
    replace h := and_inv h; obtain ⟨h2, h⟩ := h
    replace h := and_inv h; obtain ⟨h3, h⟩ := h
    replace h := and_inv h; obtain ⟨h4, h⟩ := h
    replace h := and_inv h; obtain ⟨h5, h6⟩ := h
    cases nil_inv h4
    obtain ⟨t1, t2⟩ := tgtL_inv h1
    obtain ⟨t3, t4⟩ := tgtL_inv h2
    exact sim_for2 V t1 t2 t3 t4 h3 (okE_sim it cx ie T h5) (okSs_sim b cx bs T V h6)
  | .ret e, cx, x, T, V, h => by
    replace h := onB_inv h; obtain ⟨v, e1, h⟩ := h
    obtain ⟨p, rfl⟩ := retX_inv e1
    replace h := onB_inv h; obtain ⟨v, rfl, h⟩ := h
    exact sim_ret (okE_sim e cx v T h)
  | .raise e m, cx, x, T, V, h => by
    replace h := onB_inv h; obtain ⟨v, e1, h⟩ := h
    obtain ⟨p, rfl⟩ := raiseX_inv e1
    replace h := onB_inv h; obtain ⟨⟨f, as, ks, cp⟩, e2, h⟩ := h
    cases callX_inv e2
    replace h := onB_inv h; obtain ⟨y, e3, h⟩ := h
    obtain ⟨np, e4⟩ := nameX_inv e3
    cases e4
    replace h := onB_inv h; obtain ⟨a, e5, h⟩ := h
    cases one_inv e5
    replace h := onB_inv h; obtain ⟨k, e6, h⟩ := h
    obtain ⟨j, q, e7⟩ := constX_inv e6
    cases e7
    replace h := onB_inv h; obtain ⟨u, e8, h⟩ := h
    cases strC_inv e8
    replace h := and_inv h; obtain ⟨h1, h⟩ := h
    replace h := and_inv h; obtain ⟨h2, h⟩ := h
    replace h := and_inv h; obtain ⟨h3, h⟩ := h
    replace h := and_inv h; obtain ⟨h4, h⟩ := h
    replace h := and_inv h; obtain ⟨h5, h6⟩ := h
    cases eq_inv h1
    cases nil_inv h4
    cases eq_inv h5
    obtain ⟨hx, C, hC⟩ := T.exc e (List.contains_iff_mem.mp h3)
    exact sim_raise ⟨hx, hC⟩ h2 h6
  | .tryx b e k hs, cx, x, T, V, h => by
    replace h := onB_inv h; obtain ⟨⟨bs, hds⟩, e1, h⟩ := h
    obtain ⟨p, rfl⟩ := tryX_inv e1
    replace h := onB_inv h; obtain ⟨⟨t, y, hb⟩, e2, h⟩ := h
    obtain ⟨hp, e3⟩ := handX_inv e2
    cases e3
    replace h := onB_inv h; obtain ⟨z, e4, h⟩ := h
    obtain ⟨np, e5⟩ := nameX_inv e4
    cases e5
    replace h := and_inv h; obtain ⟨h1, h⟩ := h
    replace h := and_inv h; obtain ⟨h2, h⟩ := h
    replace h := and_inv h; obtain ⟨h3, h⟩ := h
    replace h := and_inv h; obtain ⟨h4, h⟩ := h
    replace h := and_inv h; obtain ⟨h5, h⟩ := h
    replace h := and_inv h; obtain ⟨h6, h7⟩ := h
    cases eq_inv h1
    obtain ⟨hx, D, hD⟩ := T.exc e (List.contains_iff_mem.mp h3)
    obtain ⟨t1, t2⟩ := tgtL_inv h4
    cases hb with
    | nil => exact noB h5
    | cons b0 rest => exact sim_try ⟨hx, hD⟩ h2 V t1 t2 (okSs_sim b cx bs T V h6) (okSs_sim hs cx (b0 :: rest) T V h7)
termination_by structural s => s
theorem okSs_sim : ∀ (ss : List S) (cx : Cxt) (xs : List Stmt), Stc G n cx → VisOK cx.vis → okSs cx ss xs = true → SimSs G n cx ss xs
  | [], cx, [], T, V, h => sims_nil
  | [], cx, _ :: _, T, V, h => noB h
  | _ :: _, cx, [], T, V, h => noB h
  | a :: r, cx, x :: xs, T, V, h => by
    replace h := and_inv h; obtain ⟨h1, h2⟩ := h
    exact sims_cons (okS_sim a cx x T V h1) (okSs_sim r cx xs T V h2)
termination_by structural ss => ss
end
end
end Lw
namespace Lw
open PySem PySem.W PySem.Calls PyProof.Rows
noncomputable def cxOf (c : Com) (sc : Scope) (vis : List (Str × Nat)) : Cxt := ⟨sc, vis, false, c.fns, c.cls, c.excs, c.attrs, c.bifs, c.gis⟩
noncomputable def refX : Option (Option Value) → Option Addr
  | some (some (.ref a)) => some a
  | _ => none
noncomputable def fnAt (K : Frag) (cc m : String) : Option Addr := if cc = "" then refX (nsIn K mainGlobals (Str.ofString m)) else onO (clsAt K cc) fun C => refX (findIn K (.ref C) (Str.ofString m))
noncomputable def constsOk : List V → List Value → Bool
  | [], [] => true
  | .none :: r, .none :: xs => constsOk r xs
  | .int i :: r, .int j _ :: xs => i == j && constsOk r xs
  | _, _ => false
noncomputable def seqX : Option Obj → Option (Array Value)
  | some ⟨_, _, .seq its _, _⟩ => some its
  | _ => none
noncomputable def dflOk (K : Frag) (d : Value) (vs : List V) : Bool := match d with
  | .none => vs.isEmpty
  | .ref T => onB (seqX (K.lookup T)) fun its => constsOk vs its.toList
  | _ => false
noncomputable def stmtsX : FuncBody → Option (List Stmt)
  | .stmts b => some b
  | _ => none
noncomputable def headOk (K : Frag) (fn : Fn) (vis : List (Str × Nat)) (fd : FuncData) : Bool :=
  codeIn K fd.code fd.qualname && ((fd.scope.kind == .function) && (!fd.scope.isCoroutine && (!fd.scope.isGenerator && (fd.closure.isEmpty && ((fd.globals == mainGlobals) && ((fd.builtins == builtinsNs) &&
  (fd.params.posonlyargs.isEmpty && (fd.params.kwonlyargs.isEmpty && (fd.params.vararg.isNone && (fd.params.kwarg.isNone && ((fd.params.args.map (·.arg) == fn.params.map Str.ofString) && (decide fn.params.Nodup &&
  (decide (fn.defaults.length ≤ fn.params.length) && (dflOk K fd.defaults fn.defaults && (fn.params.zipIdx.all (fun p => vis.lookup (Str.ofString p.1) == some p.2) && (decide (vis.map (·.2)).Nodup &&
  fn.params.all (fun p => fd.scope.names.lookup (Str.ofString p) == some .local || fd.scope.names.lookup (Str.ofString p) == some .cell)))))))))))))))))
noncomputable def funcX : Option Obj → Option FuncData
  | some ⟨_, _, .func fd, _⟩ => some fd
  | _ => none
noncomputable def entOk (K : Frag) (com : Com) (e : Ent) : Bool := onB (fnAt K e.cc e.m) fun a => (typeIn K (.ref a) == some (.type "function")) && (keepIn K (.ref a) && onB (funcX (K.lookup a)) fun fd => headOk K e.fn e.vis fd && onB (stmtsX fd.body) fun body => okSs (cxOf com fd.scope e.vis) e.fn.body body)
noncomputable def comOk (K : Frag) (com : Com) (sub : String → String → Bool) (T : List Ent) : Bool :=
  com.fns.all (fun f => (tblFns T "" f).isSome) && (com.cls.all (fun k => !(k == "") && ((tblFns T k "__init__").isSome && onB (clsAt K k) fun C => clsOk K com.attrs C && keepIn K (.ref C))) &&
  (com.excs.all (fun k => excOk K sub (com.excs ++ com.cls) k) && (com.bifs.all (fun x => nsIn K mainGlobals (Str.ofString x) == some none) && com.gis.all fun x => match nsIn K mainGlobals (Str.ofString x.1) with | some (some (.int j _)) => x.2 == j | _ => false)))
theorem tblFns_some {T : List Ent} {c m : String} {fn : Fn} (h : tblFns T c m = some fn) : ∃ e ∈ T, e.cc = c ∧ e.m = m ∧ e.fn = fn := by
  obtain ⟨e, he, rfl⟩ := Option.map_eq_some_iff.mp h
  have h0 := List.find?_some (p := fun e : Ent => e.cc == c && e.m == m) he
  obtain ⟨h1, h2⟩ := and_inv h0
  exact ⟨e, List.mem_of_find?_eq_some he, eq_inv h1, eq_inv h2, rfl⟩
section
variable {G : Gl} {w : Wd}
theorem constsOk_R : ∀ {vs : List V} {xs : List Value}, constsOk vs xs = true → VRs G w vs xs
  | [], [], _ => .nil
  | [], _ :: _, h => noB h
  | v :: r, [], h => by cases v <;> exact noB h
  | v :: r, x :: xs, h => by
    cases v with
    | none => cases x with
      | none => exact .cons .none (constsOk_R (vs := r) h)
      | _ => exact noB h
    | int i => cases x with
      | int j t =>
        obtain ⟨h1, h2⟩ := and_inv (show (i == j && constsOk r xs) = true from h)
        cases eq_inv h1
        exact .cons (.int _ _) (constsOk_R h2)
      | _ => exact noB h
    | _ => exact noB h
theorem visOK_of {vis : List (Str × Nat)} (h : (vis.map (·.2)).Nodup) : VisOK vis := by
  intro x y k hx hy
  have : ∀ {l : List (Str × Nat)}, (l.map (·.2)).Nodup → (x, k) ∈ l → (y, k) ∈ l → x = y := by
    intro l
    induction l with
    | nil => exact fun _ h => nomatch h
    | cons p r ih =>
      intro hn hx hy
      obtain ⟨n1, n2⟩ := List.nodup_cons.mp hn
      rcases List.mem_cons.mp hx with e1 | e1 <;> rcases List.mem_cons.mp hy with e2 | e2
      · rw [← e1] at e2; cases e2; rfl
      · subst e1; exact absurd (List.mem_map.mpr ⟨_, e2, rfl⟩) n1
      · subst e2; exact absurd (List.mem_map.mpr ⟨_, e1, rfl⟩) n1
      · exact ih n2 e1 e2
  exact this h (mem_lookup hx) (mem_lookup hy)
theorem refX_inv {o : Option (Option Value)} {a : Addr} (h : refX o = some a) : o = some (some (.ref a)) := by
  rcases o with _ | _ | v
  · exact no h
  · exact no h
  · cases v <;> first | exact no h | (cases h; rfl)
theorem funcX_inv {o : Option Obj} {fd : FuncData} (h : funcX o = some fd) : ∃ oc od sl, o = some ⟨oc, od, .func fd, sl⟩ := by
  rcases o with _ | ⟨oc, od, d, sl⟩
  · exact no h
  · cases d <;> first | exact no h | (cases h; exact ⟨_, _, _, rfl⟩)
theorem seqX_inv {o : Option Obj} {xs : Array Value} (h : seqX o = some xs) : ∃ y k, o = some y ∧ y.data = .seq xs k := by
  rcases o with _ | ⟨oc, od, d, sl⟩
  · exact no h
  · cases d <;> first | exact no h | (cases h; exact ⟨_, _, rfl, rfl⟩)
theorem stmtsX_inv {b : FuncBody} {l : List Stmt} (h : stmtsX b = some l) : b = .stmts l := by cases b <;> first | exact no h | (cases h; rfl)
theorem dfl_R {d : Value} {vs : List V} (h : dflOk G.K d vs = true) : (d = .none ∧ vs = []) ∨ ∃ T o its k, d = .ref T ∧ G.K.lookup T = some o ∧ o.data = .seq its k ∧ ∀ w, VRs G w vs its.toList := by
  cases d with
  | none => exact .inl ⟨rfl, nil_inv h⟩
  | ref T =>
    obtain ⟨its, e, h⟩ := onB_inv h
    obtain ⟨y, k, e1, e2⟩ := seqX_inv e
    exact .inr ⟨T, y, its, k, rfl, e1, e2, fun w => constsOk_R h⟩
  | _ => exact noB h
theorem not_inv' {b : Bool} (h : (!b) = true) : b = false := (Bool.not_eq_true' b).mp h
theorem entOk_facts {e : Ent} (h : entOk G.K G.com e = true) : ∃ a fd body, fnAt G.K e.cc e.m = some a ∧ typeIn G.K (.ref a) = some (.type "function") ∧ keepIn G.K (.ref a) = true ∧
    FnFacts G e.fn a fd body (cxOf G.com fd.scope e.vis) ∧ okSs (cxOf G.com fd.scope e.vis) e.fn.body body = true := by
  obtain ⟨a, ha, h⟩ := onB_inv h
  obtain ⟨ht, h⟩ := and_inv h
  obtain ⟨hk, h⟩ := and_inv h
  obtain ⟨fd, hf, h⟩ := onB_inv h
  obtain ⟨h, hb⟩ := and_inv h
  obtain ⟨body, e1, hb⟩ := onB_inv hb
  obtain ⟨a1, h⟩ := and_inv h
  obtain ⟨a2, h⟩ := and_inv h
  obtain ⟨a3, h⟩ := and_inv h
  obtain ⟨a4, h⟩ := and_inv h
  obtain ⟨a5, h⟩ := and_inv h
  obtain ⟨a6, h⟩ := and_inv h
  obtain ⟨a7, h⟩ := and_inv h
  obtain ⟨a8, h⟩ := and_inv h
  obtain ⟨a9, h⟩ := and_inv h
  obtain ⟨a10, h⟩ := and_inv h
  obtain ⟨a11, h⟩ := and_inv h
  obtain ⟨a12, h⟩ := and_inv h
  obtain ⟨a13, h⟩ := and_inv h
  obtain ⟨a14, h⟩ := and_inv h
  obtain ⟨a15, h⟩ := and_inv h
  obtain ⟨a16, h⟩ := and_inv h
  obtain ⟨a17, a18⟩ := and_inv h
  exact ⟨a, fd, body, ha, eq_inv ht, hk, ⟨funcX_inv hf, stmtsX_inv e1, a1, eq_inv a2, not_inv' a3, not_inv' a4, nil_inv a5, eq_inv a6, eq_inv a7, nil_inv a8, nil_inv a9, none_inv a10, none_inv a11, eq_inv a12, of_decide_eq_true a13, of_decide_eq_true a14, dfl_R a15, rfl, rfl, rfl,
    fun j p hp => eq_inv (List.all_eq_true.mp a16 (p, j) (List.mem_zipIdx_iff_getElem?.mpr hp)), visOK_of (of_decide_eq_true a17), fun p hp => (Bool.or_eq_true_iff.mp (List.all_eq_true.mp a18 p hp)).imp eq_inv eq_inv⟩, hb⟩
theorem fnAt_glob {m : String} {a : Addr} (h : fnAt G.K "" m = some a) : nsIn G.K mainGlobals (Str.ofString m) = some (some (.ref a)) := refX_inv ((if_pos rfl).symm.trans h)
theorem fnAt_meth {cc m : String} {a : Addr} (hne : cc ≠ "") (h : fnAt G.K cc m = some a) (ht : typeIn G.K (.ref a) = some (.type "function")) (hk : keepIn G.K (.ref a) = true) : MethAt G.K cc m a := by
  obtain ⟨C, hC, h⟩ := onO_inv ((if_neg hne).symm.trans h)
  exact ⟨C, hC, refX_inv h, ht, hk⟩
structure ComR (G : Gl) (T : List Ent) : Prop where
  fns : ∀ f ∈ G.com.fns, ∃ fn, tblFns T "" f = some fn
  cls : ∀ k ∈ G.com.cls, k ≠ "" ∧ (∃ fn, tblFns T k "__init__" = some fn) ∧ ∃ C, clsAt G.K k = some C ∧ clsOk G.K G.com.attrs C = true ∧ keepIn G.K (.ref C) = true
  exc : ∀ k ∈ G.com.excs, excOk G.K G.P.sub (G.com.excs ++ G.com.cls) k = true
  bfn : ∀ x ∈ G.com.bifs, nsIn G.K mainGlobals (Str.ofString x) = some none
  gi : ∀ x i, (x, i) ∈ G.com.gis → ∃ t, nsIn G.K mainGlobals (Str.ofString x) = some (some (.int i t))
theorem com_R {T : List Ent} (h : comOk G.K G.com G.P.sub T = true) : ComR G T := by
  obtain ⟨c1, h⟩ := and_inv h
  obtain ⟨c2, h⟩ := and_inv h
  obtain ⟨c3, h⟩ := and_inv h
  obtain ⟨c4, c5⟩ := and_inv h
  refine ⟨fun f hf => Option.isSome_iff_exists.mp (List.all_eq_true.mp c1 f hf), fun k hk => ?_, fun k hk => List.all_eq_true.mp c3 k hk, fun x hx => eq_inv (List.all_eq_true.mp c4 x hx), fun x i hx => ?_⟩
  · obtain ⟨d1, d⟩ := and_inv (List.all_eq_true.mp c2 k hk)
    obtain ⟨d2, d⟩ := and_inv d
    obtain ⟨C, hC, d⟩ := onB_inv d
    obtain ⟨d3, d4⟩ := and_inv d
    exact ⟨(fun e => by rw [e] at d1; cases d1), Option.isSome_iff_exists.mp d2, C, hC, d3, d4⟩
  · have := List.all_eq_true.mp c5 (x, i) hx
    dsimp only at this
    split at this
    · rename_i j t hj; cases (eq_inv this : i = j); exact ⟨t, hj⟩
    · cases this
theorem exc_cls {k : String} (h : excOk G.K G.P.sub (G.com.excs ++ G.com.cls) k = true) : ∃ C, clsAt G.K k = some C := by
  unfold excOk at h
  split at h
  · rename_i C e; exact ⟨C, e⟩
  · cases h
theorem prog_sim {T : List Ent} {sub : String → String → Bool} (hP : G.P = progOf T sub) (hT : T.all (entOk G.K G.com) = true) (C : ComR G T) (hso : SortOk G false) (hsp : "sorted2" ∈ G.com.bifs → SortOk G true) : ∀ (n : Nat) (cc m : String) (fn : Fn), tblFns T cc m = some fn →
    ∃ a, fnAt G.K cc m = some a ∧ typeIn G.K (.ref a) = some (.type "function") ∧ keepIn G.K (.ref a) = true ∧ SimC G n cc m a := by
  intro n
  induction n with
  | zero =>
    intro cc m fn hfn
    obtain ⟨e, he, rfl, rfl, rfl⟩ := tblFns_some hfn
    obtain ⟨a, fd, body, h1, h2, h3, _⟩ := entOk_facts (List.all_eq_true.mp hT e he)
    exact ⟨a, h1, h2, h3, fun Z args kvs kn xs ys r σ' hev => no hev⟩
  | succ n ih =>
    intro cc m fn hfn
    obtain ⟨e, he, rfl, rfl, rfl⟩ := tblFns_some hfn
    obtain ⟨a, fd, body, h1, h2, h3, H, hb⟩ := entOk_facts (List.all_eq_true.mp hT e he)
    refine ⟨a, h1, h2, h3, simC_step (by rw [hP]; exact hfn) H (okSs_sim _ _ _ ⟨fun f hf => ?_, fun k hk => ⟨hk, ?_⟩, fun c' m' fn' hcc hfn' => ?_, fun k hk => ⟨hk, exc_cls (C.exc k hk)⟩, C.bfn, C.gi, hso, hsp⟩ H.vis hb)⟩
    · obtain ⟨fn', hfn'⟩ := C.fns f hf
      obtain ⟨b, k1, k2, k3, k4⟩ := ih "" f fn' hfn'
      exact ⟨b, fnAt_glob k1, k3, k4⟩
    · obtain ⟨d0, ⟨fn', hfn'⟩, C', hC', _, hkp⟩ := C.cls k hk
      obtain ⟨b, k1, k2, k3, k4⟩ := ih k "__init__" fn' hfn'
      exact ⟨C', b, hC', hkp, fnAt_meth d0 k1 k2 k3, k4⟩
    · rw [hP] at hfn'
      obtain ⟨b, k1, k2, k3, k4⟩ := ih c' m' fn' hfn'
      exact ⟨b, fnAt_meth (C.cls c' hcc).1 k1 k2 k3, k4⟩
theorem ints_vr : ∀ {vals : List Value} {ns : List Int}, IntsAre vals ns → VRs G w (ns.map .int) vals
  | _, _, .nil => .nil
  | _, _, .cons i t h => .cons (.int _ _) (ints_vr h)
noncomputable def wd0 (h : Heap) : Wd := ⟨fun a => (h.get? a).map .fix, []⟩
theorem wd0_at {h : Heap} {a : Addr} {o : Obj} (e : h.get? a = some o) : (wd0 h).m a = some (.fix o) := congrArg (Option.map Own.fix) e
theorem law_top {T : List Ent} {sub : String → String → Bool} {s₁ : Shared} {l fa : Addr} {vals : List Value} {ns : List Int} {n : Nat} {fn : Fn} {Q Ex : Value → Shared → Prop} (hP : G.P = progOf T sub) (KX : G.K.In s₁.heap) (Tg : s₁.heap.Ns mainGlobals G.mg) (Tb : s₁.heap.Ns builtinsNs G.mb) (hnl : s₁.heap.NoLimit)
    (hbi : ∀ x : Str, x ≠ "__name__" → G.mb x = bootBuiltins x) (hmg : G.mg (Str.ofString "law") = some (.ref fa)) (hT : T.all (entOk G.K G.com) = true) (hc : comOk G.K G.com sub T = true) (hso : SortOk G false) (hsp : "sorted2" ∈ G.com.bifs → SortOk G true) (hfn : tblFns T "" "law" = some fn)
    (hl : s₁.heap.IsList l vals.toArray) (hi : IntsAre vals ns) (hlen : ns.length ≤ 63) (hn : n ≤ 60) (hlaw : ∃ σ', run (progOf T sub) n false "" "law" [.lst (ns.map .int)] [] St.empty = some (.ok (.bool true), σ'))
    (hQ : ∀ s', Same s₁ s' → (∀ b o, s₁.heap.get? b = some o → s'.heap.get? b = some o) → Q (.bool true) s') :
    wpAny G.M callerA (call (.ref fa) [.ref l]) Q Ex s₁ := by
  have C := com_R (G := G) (by rw [hP]; exact hc)
  obtain ⟨a, h1, h2, h3, hsim⟩ := prog_sim hP hT C hso hsp n "" "law" fn hfn
  have ha := mg_of KX Tg (fnAt_glob h1)
  rw [hmg] at ha
  cases ha
  obtain ⟨σ', hrun⟩ := hlaw
  obtain ⟨o, ho, hcl, m, hdat⟩ := hl
  have B : Base G (wd0 s₁.heap) := ⟨fun a o e => wd0_at (KX a o e), let ⟨o, e, x⟩ := ObjNs.of Tg; ⟨o, wd0_at e, x⟩, let ⟨o, e, x⟩ := ObjNs.of Tb; ⟨o, wd0_at e, x⟩, hbi, let ⟨mc, x, y⟩ := hnl; let ⟨o, e, x⟩ := ObjNs.of x; ⟨o, mc, wd0_at e, x, y⟩, fun x hx => let ⟨_, _, C, h1, h2, _⟩ := C.cls x hx; ⟨C, h1, h2⟩, C.exc⟩
  have S : SR G (wd0 s₁.heap) St.empty s₁.heap := ⟨fun x o e => by obtain ⟨y, e1, e2⟩ := Option.map_eq_some_iff.mp e; subst e2; exact e1, rfl, fun i o e => no e⟩
  have hA : AOC callerA n false (wd0 s₁.heap) [] := ⟨fun _ => rfl, by
    show 1 + claimMargin + 4 * n + 2 < 1000
    unfold claimMargin; omega, by show 4 + 100 * n + 150 < 9900; omega, fun _ h => nomatch h⟩
  refine wpAny_mono (RC.ex .refl (hsim ⟨false, wd0 s₁.heap, St.empty, [], callerA, s₁, B, S, hA, rfl⟩ [.lst (ns.map .int)] [] [] [.ref l] [] (.ok (.bool true)) σ' (by rw [hP]; exact hrun) (.cons (.lst (wd0_at ho) hcl hdat (ints_vr hi) (by rw [List.length_map]; exact Nat.le_trans hlen (by decide))) .nil) .nil)) (fun v s' ⟨w', p, hv⟩ => ?_) fun _ _ q => q.elim
  cases hv
  exact hQ s' p.hs fun b o e => p.S.at (p.hw.m _ _ (wd0_at e))
end
end Lw
namespace Lw
open PySem PySem.W PySem.Calls PyProof.Rows
noncomputable def notName : Stmt → Bool
  | .Assign [.Name x _] _ _ => !(x == ("__name__" : Str))
  | _ => true
noncomputable def viewOf (p : Program) : Program := { p with main := { p.main with body := p.main.body.filter notName } }
noncomputable def endsOf (p : Program) (N : Nat) (w : World) : Option Shared := openEnds treeTable p w N
noncomputable def saysOf (p : Program) (N : Nat) (w : World) (h : Heap) : Prop := ∃ s, endsOf p N w = some s ∧ ∀ a o, s.heap.get? a = some o → h.get? a = some o
noncomputable def fragOf (as : List Addr) (s : Shared) : Frag := as.filterMap fun a => (s.heap.get? a).map fun o => (a, o)
noncomputable def fragAt (p : Program) (N : Nat) (as : List Addr) (w : World) : Frag := match endsOf p N w with
  | some s => fragOf as s
  | none => []
theorem look_mem {α : Type} {l : List (Addr × α)} {a : Addr} {o : α} (h : l.lookup a = some o) : (a, o) ∈ l := by
  induction l with
  | nil => exact no h
  | cons z r ih =>
    obtain ⟨b, x⟩ := z
    rw [List.lookup_cons] at h
    split at h
    · rename_i q; cases h; cases eq_of_beq q; exact List.mem_cons_self ..
    · exact List.mem_cons_of_mem _ (ih h)
theorem frag_in {as : List Addr} {s : Shared} {a : Addr} {o : Obj} (h : (fragOf as s).lookup a = some o) : s.heap.get? a = some o := by
  obtain ⟨b, _, e⟩ := List.mem_filterMap.mp (look_mem h)
  obtain ⟨x, hx, e⟩ := Option.map_eq_some_iff.mp e
  cases e
  exact hx
theorem frag_kin {p : Program} {N : Nat} {as : List Addr} {w : World} {h : Heap} (Y : saysOf p N w h) : (fragAt p N as w).In h := by
  obtain ⟨s, e, hk⟩ := Y
  intro a o hl
  unfold fragAt at hl
  rw [e] at hl
  exact hk a o (frag_in hl)
theorem says_of (p : Program) (N : Nat) (w : World) (s : Shared) (e : some s.heap = (endsOf p N w).map (·.heap)) : saysOf p N w s.heap := by
  cases q : endsOf p N w with
  | none => rw [q] at e; cases e
  | some s' =>
    rw [q] at e
    have e' : s.heap = s'.heap := by simpa using e
    exact ⟨s', q, fun a o h => by rw [e']; exact h⟩
theorem says_keeps (p : Program) (N : Nat) (w : World) (h h' : Heap) (Y : saysOf p N w h) (k : ∀ b o, h.get? b = some o → h'.get? b = some o) : saysOf p N w h' :=
  let ⟨s, e, x⟩ := Y; ⟨s, e, fun a o q => k a o (x a o q)⟩
theorem left_of {p q : Program} {loose : List Str} {Xt : Shared → Bool} {N : Nat} (h : ∀ w, (endsOf p N w).map (fun s => openSeen q loose (importedModules p.main.body) Xt true s) = some (openGood q loose)) :
    LeftO p q loose Xt (fun s => some s.heap) (fun w => (endsOf p N w).map (·.heap)) N := by
  intro w
  have hw := h w
  show (endsOf p N w).map _ = _
  cases e : endsOf p N w with
  | none => rw [e] at hw; cases hw
  | some s =>
    rw [e] at hw
    simp only [Option.map_some, Option.some.injEq] at hw ⊢
    rw [hw, e]; rfl
noncomputable def defD (q : Program) (n : Str) : DefRec := match defOf q n with
  | some (d, _) => d
  | none => ⟨n, ⟨[], [], none, [], [], none, []⟩, [], ⟨.function, [], false, false, []⟩, ⟨0, 0, 0, 0⟩⟩
theorem ran1 {α β γ δ : Type} {x : Option α} {f : α → β} {g : α → γ} {h : α → δ} {b : β} {c : γ} {d : δ} (e : x.map (fun s => (f s, g s, h s)) = some (b, c, d)) : x.map f = some b := by
  cases x with
  | none => cases e
  | some s =>
    simp only [Option.map_some, Option.some.injEq, Prod.mk.injEq] at e
    simp only [Option.map_some, e.1]
theorem frag_ran {p : Program} {N : Nat} {w : World} {h : Heap} {as : List Addr} {T : List Ent} {com : Com} {sub : String → String → Bool} {β : Type} {f : Shared → β} {b : β}
    (e : (endsOf p N w).map (fun s => (f s, T.all (entOk (fragOf as s) com), comOk (fragOf as s) com sub T)) = some (b, true, true)) (Y : saysOf p N w h) :
    ∃ K : Frag, K.In h ∧ T.all (entOk K com) = true ∧ comOk K com sub T = true := by
  obtain ⟨s, es, hk⟩ := Y
  rw [es] at e
  simp only [Option.map_some, Option.some.injEq, Prod.mk.injEq] at e
  exact ⟨fragOf as s, fun a o hl => hk a o (frag_in hl), e.2.1, e.2.2⟩
end Lw
namespace Lw
open PySem PySem.W PyProof.Rows
noncomputable def topG (ok : Thread → Bool) (stp : SharedT → Thread → Option (SharedT × Thread)) : Nat → SharedT → Thread → Option SharedT
  | 0, _, _ => none
  | n + 1, s, t => match through t with
    | true => some s
    | false => match ok t with
      | false => none
      | true => match stp s t with
        | some (s', t') => topG ok stp n s' t'
        | none => none
noncomputable def topRunT (tb : String → Option Builtin) (p : Program) (w : World) (n₀ : Nat) (ann : Option Value) : Nat → SharedT → Thread → Option SharedT := topG (stepOk n₀ ann) (stepT (denote tb) p w)
noncomputable def topRunQ (p : Program) (w : World) (n₀ : Nat) (ann : Option Value) : Nat → SharedT → Thread → Option SharedT := topG (PySem.W.Fast.tw6613529449190102663 n₀ ann) (PySem.W.Fast.tw10156331382660048174 (PySem.W.Fast.tw11892475500146522536 PySem.W.Fast.tw14364793385576792824) p w)
theorem topRunQ_eq (p : Program) (w : World) (n₀ : Nat) (ann : Option Value) : topRunT treeTable p w n₀ ann = topRunQ p w n₀ ann := by
  unfold topRunT topRunQ
  rw [PySem.W.Fast.te6613529449190102663, PySem.W.Fast.te10156331382660048174, PySem.W.Fast.te11892475500146522536, PySem.W.Fast.te14364793385576792824]
section
variable {tb : String → Option Builtin} {p : Program} {w : World} {n₀ : Nat} {ann : Option Value}
theorem topRun_of : ∀ {n : Nat} {s s' : SharedT} {t : Thread}, topRunT tb p w n₀ ann n s t = some s' → topRun tb p w n₀ ann n s.abs t = some s'.abs
  | 0, _, _, _, h => by cases h
  | n + 1, s, s', t, h => by
    unfold topRunT topG at h
    unfold topRun
    cases ht : through t with
    | true => rw [ht] at h; cases h; rfl
    | false =>
      rw [ht] at h
      cases hk : stepOk n₀ ann t with
      | false => rw [hk] at h; cases h
      | true =>
        rw [hk] at h
        cases hs : stepT (denote tb) p w s t with
        | none => rw [hs] at h; cases h
        | some r => obtain ⟨s₂, t₂⟩ := r; rw [hs] at h; rw [stepT_spec hs]; exact topRun_of h
end
noncomputable def insAll : List Obj → Nat → BT → BT
  | [], _, t => t
  | o :: r, i, t => insAll r (i + 1) (t.ins i o)
noncomputable def bootN (P : Params) : Nat := (boot_heap P).objs.size
noncomputable def bootT (P : Params) : BT := insAll (boot_heap P).objs.toList 0 .nil
theorem boot_abs (P : Params) : absHeap (bootT P) (bootN P) (boot_heap P).life = boot_heap P := by kernel_rfl
noncomputable def topT (p : Program) (w : World) (N : Nat) (os : OsState) : Option SharedT :=
  topRunQ p w (bootN w.params) ((boot_heap w.params).nsMap mainGlobals "__annotations__") N ⟨bootT w.params, bootN w.params, (boot_heap w.params).life, Array.mk [], boot_drawn, boot_toks, os⟩ (topStub p)
noncomputable def topChk (p : Program) (P : Params) (s : Shared) : Bool := staticsOk (importedModules p.main.body) (boot_heap P) s.heap && namesBound p s.heap && gensDone s && laidKept (boot_heap P) s.heap
theorem ends_of {p : Program} {N : Nat} {w : World} {β : Type} {f : Shared → β} {b : β} (e : opening p = plainProg p.main.scope.names) (hN : Nat.ble 600 N = true) (hf : ∀ s, fenceModules? p s = some s) (h0 : (boot_heap w.params).isNs mainGlobals = true)
    (h : ∀ os, (topT p w N os).map (fun s => (topChk p w.params s.abs, f s.abs)) = some (true, b)) : (openEnds treeTable p w N).map f = some b := by
  have hb := boot_open (N := N) e hN hf w
  obtain ⟨s, hs, hv⟩ := Option.map_eq_some_iff.mp hb
  obtain ⟨hp, g, d, tk, os⟩ := s
  simp only [Prod.mk.injEq] at hv
  obtain ⟨rfl, rfl, rfl, rfl⟩ := hv
  unfold openEnds
  rw [hs]
  show (topFrom treeTable p w N _).map f = some b
  unfold topFrom
  have h1 : ((boot_heap w.params).isNs mainGlobals && (Array.mk ([] : List GenState)).size == 0) = true := by rw [h0]; rfl
  dsimp only
  rw [h1]
  dsimp only
  obtain ⟨sT, e1, e2⟩ := Option.map_eq_some_iff.mp (h os)
  have key := topRun_of (show topRunT treeTable p w (bootN w.params) ((boot_heap w.params).nsMap mainGlobals "__annotations__") N ⟨bootT w.params, bootN w.params, (boot_heap w.params).life, Array.mk [], boot_drawn, boot_toks, os⟩ (topStub p) = some sT from by rw [topRunQ_eq]; exact e1)
  have ea : (⟨bootT w.params, bootN w.params, (boot_heap w.params).life, Array.mk [], boot_drawn, boot_toks, os⟩ : SharedT).abs = ⟨boot_heap w.params, Array.mk [], boot_drawn, boot_toks, os⟩ := by
    show (⟨absHeap (bootT w.params) (bootN w.params) (boot_heap w.params).life, Array.mk [], boot_drawn, boot_toks, os⟩ : Shared) = _
    rw [boot_abs]
  rw [ea] at key
  have key : topRun treeTable p w (boot_heap w.params).objs.size ((boot_heap w.params).nsMap mainGlobals "__annotations__") N ⟨boot_heap w.params, Array.mk [], boot_drawn, boot_toks, os⟩ (topStub p) = some sT.abs := key
  rw [key]
  simp only [Prod.mk.injEq] at e2
  obtain ⟨e2, rfl⟩ := e2
  have e2 : (staticsOk (importedModules p.main.body) (boot_heap w.params) sT.abs.heap && namesBound p sT.abs.heap && gensDone sT.abs && laidKept (boot_heap w.params) sT.abs.heap) = true := e2
  dsimp only [Option.bind_some]
  rw [e2]
  rfl
end Lw
namespace Lw
open PySem
structure Mc where
  P : Prog
  cl : Cl
  hd : Bool
  dr : Bool
noncomputable def Ev (M : Mc) (ρ : Rho) (σ : St) (e : E) (v : V) (σ' : St) : Prop := ev M.P M.cl M.hd e ρ σ = some (.ok v, σ')
noncomputable def Evs (M : Mc) (ρ : Rho) (σ : St) (es : List E) (vs : List V) (σ' : St) : Prop := evs M.P M.cl M.hd es ρ σ = some (.ok vs, σ')
noncomputable def Ex (M : Mc) (ss : List S) (ρ : Rho) (σ : St) (R : RS) : Prop := execs M.P M.cl M.hd M.dr ss ρ σ = R
section
variable {M : Mc} {ρ ρ' : Rho} {σ σ₁ σ₂ σ₃ σ₄ : St} {a b d : E} {x y z v : V} {es ks : List E} {xs ys vs us : List V} {i j : Int} {t u : Bool} {R : RS} {k : Nat} {r tb fb : List S}
theorem bM {α β : Type} {m : Option (Res α × St)} {f : α → St → Option (Res β × St)} {q : α} (h : m = some (.ok q, σ)) : bindM m f = f q σ := by rw [h]; rfl
theorem bE {m : RV} {f : V → St → RS} (h : m = some (.ok x, σ)) : bindE m ρ f = f x σ := by rw [h]; rfl
theorem oO {α β : Type} {o : Option α} {f : α → Option β} {q : α} (h : o = some q) : onO o f = f q := by rw [h]; rfl
theorem rV {o : Option V} (h : o = some x) : retV o σ = some (.ok x, σ) := by rw [h]; rfl
theorem rB {o : Option Bool} (h : o = some t) : retB o σ = some (.ok (.bool t), σ) := by rw [h]; rfl
theorem Ev.cNone : Ev M ρ σ .cNone .none σ := rfl
theorem Ev.cBool : Ev M ρ σ (.cBool t) (.bool t) σ := rfl
theorem Ev.cInt : Ev M ρ σ (.cInt i) (.int i) σ := rfl
theorem Ev.cStr {s : Str} : Ev M ρ σ (.cStr s) (.str s) σ := rfl
theorem Ev.gint {s : String} : Ev M ρ σ (.gint s i) (.int i) σ := rfl
theorem Ev.var (h : ρ k = some v) : Ev M ρ σ (.var k) v σ := rV h
theorem Ev.bin {op : BOp} (ha : Ev M ρ σ a x σ₁) (hb : Ev M ρ σ₁ b y σ₂) (h : binV op x y = some z) : Ev M ρ σ (.bin op a b) z σ₂ := (bM ha).trans ((bM hb).trans (rV h))
theorem Ev.add (ha : Ev M ρ σ a (.int i) σ₁) (hb : Ev M ρ σ₁ b (.int j) σ₂) : Ev M ρ σ (.bin .add a b) (.int (i + j)) σ₂ := .bin ha hb rfl
theorem Ev.sub (ha : Ev M ρ σ a (.int i) σ₁) (hb : Ev M ρ σ₁ b (.int j) σ₂) : Ev M ρ σ (.bin .sub a b) (.int (i - j)) σ₂ := .bin ha hb rfl
theorem Ev.mul (ha : Ev M ρ σ a (.int i) σ₁) (hb : Ev M ρ σ₁ b (.int j) σ₂) (h : i.natAbs < 2 ^ 60 ∧ j.natAbs < 2 ^ 60) : Ev M ρ σ (.bin .mul a b) (.int (i * j)) σ₂ := .bin ha hb (if_pos h)
theorem Ev.fdiv (ha : Ev M ρ σ a (.int i) σ₁) (hb : Ev M ρ σ₁ b (.int j) σ₂) (h : 0 < j ∧ j < 2 ^ 60) : Ev M ρ σ (.bin .fdiv a b) (.int (i / j)) σ₂ := .bin ha hb (if_pos h)
theorem Ev.mod (ha : Ev M ρ σ a (.int i) σ₁) (hb : Ev M ρ σ₁ b (.int j) σ₂) (h : 0 < j ∧ j < 2 ^ 60) : Ev M ρ σ (.bin .mod a b) (.int (i % j)) σ₂ := .bin ha hb (if_pos h)
theorem Ev.addS {s w : Str} (ha : Ev M ρ σ a (.str s) σ₁) (hb : Ev M ρ σ₁ b (.str w) σ₂) (h : s.length + w.length ≤ lim) : Ev M ρ σ (.bin .add a b) (.str (s ++ w)) σ₂ := .bin ha hb (if_pos h)
theorem Ev.addL (ha : Ev M ρ σ a (.lst xs) σ₁) (hb : Ev M ρ σ₁ b (.lst ys) σ₂) (h : xs.length + ys.length ≤ lim) : Ev M ρ σ (.bin .add a b) (.lst (xs ++ ys)) σ₂ := .bin ha hb (if_pos h)
theorem Ev.cmp {op : COp} (ha : Ev M ρ σ a x σ₁) (hb : Ev M ρ σ₁ b y σ₂) (h : cmpV σ₂ op x y = some t) : Ev M ρ σ (.cmp op a b) (.bool t) σ₂ := (bM ha).trans ((bM hb).trans (rB h))
theorem Ev.isNone (ha : Ev M ρ σ a x σ₁) : Ev M ρ σ (.isNone a) (.bool x.isNone) σ₁ := bM ha
theorem Ev.notNone (ha : Ev M ρ σ a x σ₁) : Ev M ρ σ (.notNone a) (.bool (!x.isNone)) σ₁ := bM ha
theorem Ev.bool1 (ha : Ev M ρ σ a x σ₁) : Ev M ρ σ (.bool u [a]) x σ₁ := bM ha
theorem Ev.boolS (ha : Ev M ρ σ a x σ₁) (h : truthV σ₁ x = some (!u)) : Ev M ρ σ (.bool u (a :: b :: es)) x σ₁ := (bM ha).trans ((oO h).trans (if_neg (by cases u <;> decide)))
theorem Ev.boolC (ha : Ev M ρ σ a x σ₁) (h : truthV σ₁ x = some u) (hb : Ev M ρ σ₁ (.bool u (b :: es)) v σ₂) : Ev M ρ σ (.bool u (a :: b :: es)) v σ₂ := (bM ha).trans ((oO h).trans ((if_pos rfl).trans hb))
theorem Ev.not (ha : Ev M ρ σ a x σ₁) (h : truthV σ₁ x = some t) : Ev M ρ σ (.not a) (.bool (!t)) σ₁ := (bM ha).trans (rB (by rw [h]; rfl))
theorem Ev.neg (ha : Ev M ρ σ a (.int i) σ₁) : Ev M ρ σ (.neg a) (.int (-i)) σ₁ := (bM ha).trans rfl
theorem Evs.nil : Evs M ρ σ [] [] σ := rfl
theorem Evs.cons (ha : Ev M ρ σ a x σ₁) (hs : Evs M ρ σ₁ es xs σ₂) : Evs M ρ σ (a :: es) (x :: xs) σ₂ := (bM ha).trans (bM hs)
theorem Ev.fcall {f : String} (hs : Evs M ρ σ es xs σ₁) (h : M.cl M.hd "" f xs [] σ₁ = some (.ok v, σ₂)) : Ev M ρ σ (.fcall f es) v σ₂ := (bM hs).trans h
theorem Ev.new {c : String} {kn : List String} (hs : Evs M ρ σ es xs σ₁) (hk : Evs M ρ σ₁ ks us σ₂) (h : M.cl M.hd c "__init__" (.ref σ₂.n :: xs) (kn.zip us) (σ₂.new (.inst c [])) = some (.ok .none, σ₃)) : Ev M ρ σ (.new c es kn ks) (.ref σ₂.n) σ₃ := (bM hs).trans ((bM hk).trans (bM h))
theorem Ev.mcall {m c : String} {kn : List String} (ho : Ev M ρ σ a x σ₁) (hm : methV M.P σ₁ x m = some c) (hs : Evs M ρ σ₁ es xs σ₂) (hk : Evs M ρ σ₂ ks us σ₃) (h : M.cl M.hd c m (x :: xs) (kn.zip us) σ₃ = some (.ok v, σ₄)) : Ev M ρ σ (.mcall a m es kn ks) v σ₄ :=
  (bM ho).trans ((oO hm).trans ((bM hs).trans ((bM hk).trans h)))
theorem Ev.bcall {f : Bf} (hs : Evs M ρ σ es xs σ₁) (hl : (f.long && M.hd) = false) (h : bfV f xs σ₁ = some (.ok v, σ₂)) : Ev M ρ σ (.bcall f es) v σ₂ := (bM hs).trans ((if_neg (by rw [hl]; decide)).trans h)
theorem Ev.bmeth {m : Bm} (ho : Ev M ρ σ a x σ₁) (hp : bmPre σ₁ m x = true) (hs : Evs M ρ σ₁ es xs σ₂) (hl : (m.long && M.hd) = false) (h : bmV m x xs σ₂ = some (.ok v, σ₃)) : Ev M ρ σ (.bmeth m a es) v σ₃ :=
  (bM ho).trans ((if_pos hp).trans ((bM hs).trans ((if_neg (by rw [hl]; decide)).trans h)))
theorem Ev.isinst {ty : Ty} (ha : Ev M ρ σ a x σ₁) (h : isinstV M.P σ₁ x ty = some t) : Ev M ρ σ (.isinst a ty) (.bool t) σ₁ := (bM ha).trans (rB h)
theorem Ev.attr {n : String} (ha : Ev M ρ σ a x σ₁) (h : attrV σ₁ x n = some v) : Ev M ρ σ (.attr a n) v σ₁ := (bM ha).trans (rV h)
theorem Ev.idx (ha : Ev M ρ σ a x σ₁) (hb : Ev M ρ σ₁ b y σ₂) (h : idxV σ₂ x y = some v) : Ev M ρ σ (.idx a b) v σ₂ := (bM ha).trans ((bM hb).trans (rV h))
theorem Ev.slice {mt : Bool} (ha : Ev M ρ σ a x σ₁) (hb : Ev M ρ σ₁ b y σ₂) (hd : Ev M ρ σ₂ d z σ₃) (h : sliceV mt x y z σ₃ = some (.ok v, σ₄)) : Ev M ρ σ (.slice mt a b d) v σ₄ := (bM ha).trans ((bM hb).trans ((bM hd).trans h))
theorem Ev.rev (ha : Ev M ρ σ a x σ₁) (h : seqOf σ₁ x = some xs) : Ev M ρ σ (.rev false a) (.lst xs.reverse) σ₁ := (bM ha).trans (oO h)
theorem Ev.list (hs : Evs M ρ σ es xs σ₁) (h : xs.length ≤ lim) : Ev M ρ σ (.list false es) (.lst xs) σ₁ := (bM hs).trans (if_pos h)
theorem Ev.listM (hs : Evs M ρ σ es xs σ₁) (h : xs.length ≤ lim) : Ev M ρ σ (.list true es) (.ref σ₁.n) (σ₁.new (.list false xs)) := (bM hs).trans (if_pos h)
theorem Ev.tup (hs : Evs M ρ σ es xs σ₁) (h : xs.length ≤ lim) : Ev M ρ σ (.tup es) (.tup xs) σ₁ := (bM hs).trans (if_pos h)
theorem Ev.dict0 : Ev M ρ σ (.dict0 true) (.ref σ.n) (σ.new (.ds false [])) := rfl
theorem Ev.dict {kk : List Str} (hs : Evs M ρ σ es xs σ₁) : Ev M ρ σ (.dict kk es) (.ref σ₁.n) (σ₁.new (.ds false (kk.zip xs))) := bM hs
theorem compL_map {test elt : V → St → RV} {f : V → V} {p : V → Bool} : ∀ {xs : List V}, (∀ x ∈ xs, test x σ = some (.ok (.bool (p x)), σ)) → (∀ x ∈ xs, p x = true → elt x σ = some (.ok (f x), σ)) → compL test elt xs σ = some (.ok ((xs.filter p).map f), σ)
  | [], _, _ => rfl
  | x :: r, ht, he => by
    have ih := compL_map (xs := r) (fun y hy => ht y (List.mem_cons_of_mem _ hy)) fun y hy => he y (List.mem_cons_of_mem _ hy)
    refine (bM (ht x (List.mem_cons_self ..))).trans ((oO rfl).trans ?_)
    cases hp : p x with
    | true => rw [List.filter_cons_of_pos hp]; exact (bM (he x (List.mem_cons_self ..) hp)).trans (bM ih)
    | false => rw [List.filter_cons_of_neg (by rw [hp]; decide)]; exact ih
theorem Ev.comp {f : V → V} (hh : M.hd = false) (ha : Ev M ρ σ a x σ₁) (hi : itemsOf σ₁ x = some xs) (hl : unlockV σ₁ x (lockV σ₁ x) = σ₁) (he : ∀ y ∈ xs, Ev M (upd ρ k y) (lockV σ₁ x) b (f y) (lockV σ₁ x)) : Ev M ρ σ (.comp false b k a (.cBool true)) (.lst (xs.map f)) σ₁ := by
  obtain ⟨P, cl, hd, dr⟩ := M
  cases hh
  refine (bM ha).trans ((oO hi).trans ((oO (q := (xs.map f, lockV σ₁ x)) ?_).trans (by show mkL false _ _ = _; rw [hl]; rfl)))
  rw [compL_map (p := fun _ => true) (f := f) (fun _ _ => rfl) fun y hy _ => he y hy, List.filter_eq_self.mpr fun _ _ => rfl]; rfl
theorem Ev.compM {f : V → V} (hh : M.hd = false) (ha : Ev M ρ σ a x σ₁) (hi : itemsOf σ₁ x = some xs) (hl : unlockV σ₁ x (lockV σ₁ x) = σ₁) (he : ∀ y ∈ xs, Ev M (upd ρ k y) (lockV σ₁ x) b (f y) (lockV σ₁ x)) : Ev M ρ σ (.comp true b k a (.cBool true)) (.ref σ₁.n) (σ₁.new (.list false (xs.map f))) := by
  obtain ⟨P, cl, hd, dr⟩ := M
  cases hh
  refine (bM ha).trans ((oO hi).trans ((oO (q := (xs.map f, lockV σ₁ x)) ?_).trans (by show mkL true _ _ = _; rw [hl]; rfl)))
  rw [compL_map (p := fun _ => true) (f := f) (fun _ _ => rfl) fun y hy _ => he y hy, List.filter_eq_self.mpr fun _ _ => rfl]; rfl
theorem execs_app : ∀ {s : List S} {ρ : Rho} {σ : St}, execs M.P M.cl M.hd M.dr (s ++ r) ρ σ = bindS (execs M.P M.cl M.hd M.dr s ρ σ) fun ρ σ => execs M.P M.cl M.hd M.dr r ρ σ
  | [], _, _ => rfl
  | a :: s, ρ, σ => by
    show bindS (exec M.P M.cl M.hd M.dr a ρ σ) (fun ρ σ => execs M.P M.cl M.hd M.dr (s ++ r) ρ σ) = bindS (bindS (exec M.P M.cl M.hd M.dr a ρ σ) fun ρ σ => execs M.P M.cl M.hd M.dr s ρ σ) _
    cases exec M.P M.cl M.hd M.dr a ρ σ with
    | none => rfl
    | some q =>
      obtain ⟨fl, ρ₁, σ₁⟩ := q
      cases fl with
      | next => exact execs_app (s := s)
      | ret => rfl
      | exc => rfl
theorem bS {m : RS} {f : Rho → St → RS} (h : m = some (.next, ρ, σ)) : bindS m f = f ρ σ := by rw [h]; rfl
theorem Ex.nil : Ex M [] ρ σ (some (.next, ρ, σ)) := rfl
theorem Ex.expr (h : Ev M ρ σ a x σ₁) (k : Ex M r ρ σ₁ R) : Ex M (.expr a :: r) ρ σ R := (bS (bE h)).trans k
theorem Ex.assign (h : Ev M ρ σ a x σ₁) (q : Ex M r (upd ρ k x) σ₁ R) : Ex M (.assign k a :: r) ρ σ R := (bS (bE h)).trans q
theorem Ex.setattr {n : String} (h : Ev M ρ σ b x σ₁) (h2 : Ev M ρ σ₁ a y σ₂) (h3 : setattrV y n x σ₂ = some σ₃) (q : Ex M r ρ σ₃ R) : Ex M (.setattr a n b :: r) ρ σ R := (bS ((bE h).trans ((bE h2).trans (by rw [h3]; rfl)))).trans q
theorem Ex.setidx (h : Ev M ρ σ b x σ₁) (h2 : Ev M ρ σ₁ a y σ₂) (h3 : Ev M ρ σ₂ d z σ₃) (h4 : setidxV y z x σ₃ = some σ₄) (q : Ex M r ρ σ₄ R) : Ex M (.setidx a d b :: r) ρ σ R := (bS ((bE h).trans ((bE h2).trans ((bE h3).trans (by rw [h4]; rfl))))).trans q
theorem Ex.iteT (h : Ev M ρ σ a x σ₁) (ht : truthV σ₁ x = some true) (q : Ex M (tb ++ r) ρ σ₁ R) : Ex M (.ite a tb fb :: r) ρ σ R := by
  have e : exec M.P M.cl M.hd M.dr (.ite a tb fb) ρ σ = execs M.P M.cl M.hd M.dr tb ρ σ₁ := (bE h).trans (oO ht)
  show bindS (exec M.P M.cl M.hd M.dr (.ite a tb fb) ρ σ) _ = R
  rw [e, ← execs_app]; exact q
theorem Ex.iteF (h : Ev M ρ σ a x σ₁) (ht : truthV σ₁ x = some false) (q : Ex M (fb ++ r) ρ σ₁ R) : Ex M (.ite a tb fb :: r) ρ σ R := by
  have e : exec M.P M.cl M.hd M.dr (.ite a tb fb) ρ σ = execs M.P M.cl M.hd M.dr fb ρ σ₁ := (bE h).trans (oO ht)
  show bindS (exec M.P M.cl M.hd M.dr (.ite a tb fb) ρ σ) _ = R
  rw [e, ← execs_app]; exact q
theorem Ex.ret (h : Ev M ρ σ a x σ₁) : Ex M (.ret a :: r) ρ σ (some (.ret x, ρ, σ₁)) := by
  show bindS (bindE (ev M.P M.cl M.hd a ρ σ) ρ _) _ = _
  rw [bE h]; rfl
theorem Ex.for1 (hh : M.hd = false) (h : Ev M ρ σ a x σ₁) (hi : itemsOf σ₁ x = some xs) (hl : loop (fun v ρ σ => execs M.P M.cl M.hd M.dr tb (upd ρ k v) σ) xs ρ (lockV σ₁ x) = some (.next, ρ', σ₂)) (q : Ex M r ρ' (unlockV σ₁ x σ₂) R) : Ex M (.for1 k a tb :: r) ρ σ R := by
  obtain ⟨P, cl, hd, dr⟩ := M
  cases hh
  exact (bS ((bE h).trans ((oO hi).trans (by rw [hl]; rfl)))).trans q
theorem Ex.forP (hh : M.hd = false) (h : Ev M ρ σ a x σ₁) (hi : itemsOf σ₁ x = some xs) (hl : loop (fun v ρ σ => execs M.P M.cl M.hd M.dr tb (upd ρ k v) σ) xs ρ (lockV σ₁ x) = some (.next, ρ', lockV σ₁ x)) (hu : unlockV σ₁ x (lockV σ₁ x) = σ₁) (q : Ex M r ρ' σ₁ R) : Ex M (.for1 k a tb :: r) ρ σ R := .for1 hh h hi hl (hu.symm ▸ q)
theorem loop_inv {f : V → Rho → St → RS} (I : Nat → Rho → St → Prop) : ∀ (xs : List V) (n : Nat) (ρ : Rho) (σ : St), I n ρ σ → (∀ i v ρ σ, xs[i]? = some v → I (n + i) ρ σ → ∃ ρ' σ', f v ρ σ = some (.next, ρ', σ') ∧ I (n + i + 1) ρ' σ') → ∃ ρ' σ', loop f xs ρ σ = some (.next, ρ', σ') ∧ I (n + xs.length) ρ' σ'
  | [], n, ρ, σ, h, _ => ⟨ρ, σ, rfl, h⟩
  | v :: r, n, ρ, σ, h, hs => by
    obtain ⟨ρ₁, σ₁, e, h1⟩ := hs 0 v ρ σ rfl h
    obtain ⟨ρ₂, σ₂, e2, h2⟩ := loop_inv I r (n + 1) ρ₁ σ₁ h1 fun i u ρ σ hu hI => by
      rw [show n + 1 + i = n + (i + 1) by omega] at hI ⊢
      exact hs (i + 1) u ρ σ hu hI
    refine ⟨ρ₂, σ₂, (bS e).trans e2, ?_⟩
    rw [List.length_cons, Nat.add_comm r.length 1, ← Nat.add_assoc]; exact h2
theorem call_at {P : Prog} {n : Nat} {hd : Bool} {c f : String} {args : List V} {kws : List (String × V)} {fn : Fn} (hf : P.fns c f = some fn) (hk : kwOk fn args kws = true) (hb : bindP fn.params args kws fn.dflts = some vs) (h : Ex ⟨P, run P n, hd, true⟩ fn.body (rhoOf vs) σ (some (.ret v, ρ, σ₁))) : run P (n + 1) hd c f args kws σ = some (.ok v, σ₁) := by
  refine (oO hf).trans ((if_pos hk).trans ((oO hb).trans ?_))
  rw [show execs P (run P n) hd true fn.body (rhoOf vs) σ = _ from h]; rfl
theorem call_at0 {P : Prog} {n : Nat} {hd : Bool} {c f : String} {args : List V} {kws : List (String × V)} {fn : Fn} (hf : P.fns c f = some fn) (hk : kwOk fn args kws = true) (hb : bindP fn.params args kws fn.dflts = some vs) (h : Ex ⟨P, run P n, hd, true⟩ fn.body (rhoOf vs) σ (some (.next, ρ, σ₁))) : run P (n + 1) hd c f args kws σ = some (.ok .none, σ₁) := by
  refine (oO hf).trans ((if_pos hk).trans ((oO hb).trans ?_))
  rw [show execs P (run P n) hd true fn.body (rhoOf vs) σ = _ from h]; rfl
theorem Ev.compF {f : V → V} {p : V → Bool} (hh : M.hd = false) (ha : Ev M ρ σ a x σ₁) (hi : itemsOf σ₁ x = some xs) (hl : unlockV σ₁ x (lockV σ₁ x) = σ₁) (ht : ∀ y ∈ xs, Ev M (upd ρ k y) (lockV σ₁ x) d (.bool (p y)) (lockV σ₁ x)) (he : ∀ y ∈ xs, p y = true → Ev M (upd ρ k y) (lockV σ₁ x) b (f y) (lockV σ₁ x)) : Ev M ρ σ (.comp false b k a d) (.lst ((xs.filter p).map f)) σ₁ := by
  obtain ⟨P, cl, hd, dr⟩ := M
  cases hh
  refine (bM ha).trans ((oO hi).trans ((oO (q := ((xs.filter p).map f, lockV σ₁ x)) ?_).trans (by show mkL false _ _ = _; rw [hl]; rfl)))
  rw [compL_map (p := p) (f := f) ht he]; rfl
noncomputable def EvX (M : Mc) (ρ : Rho) (σ : St) (e : E) (c : String) (σ' : St) : Prop := ev M.P M.cl M.hd e ρ σ = some (.exc c, σ')
theorem bX {α β : Type} {m : Option (Res α × St)} {f : α → St → Option (Res β × St)} {c : String} (h : m = some (.exc c, σ)) : bindM m f = some (.exc c, σ) := by rw [h]; rfl
theorem EvX.mcall {m c e : String} {kn : List String} (ho : Ev M ρ σ a x σ₁) (hm : methV M.P σ₁ x m = some c) (hs : Evs M ρ σ₁ es xs σ₂) (hk : Evs M ρ σ₂ ks us σ₃) (h : M.cl M.hd c m (x :: xs) (kn.zip us) σ₃ = some (.exc e, σ₄)) : EvX M ρ σ (.mcall a m es kn ks) e σ₄ :=
  (bM ho).trans ((oO hm).trans ((bM hs).trans ((bM hk).trans h)))
theorem EvX.fcall {f e : String} (hs : Evs M ρ σ es xs σ₁) (h : M.cl M.hd "" f xs [] σ₁ = some (.exc e, σ₂)) : EvX M ρ σ (.fcall f es) e σ₂ := (bM hs).trans h
theorem Ex.exprX {c : String} (h : EvX M ρ σ a c σ₁) : Ex M (.expr a :: r) ρ σ (some (.exc c, ρ, σ₁)) := by
  show bindS (bindE (ev M.P M.cl M.hd a ρ σ) ρ _) _ = _
  rw [show ev M.P M.cl M.hd a ρ σ = _ from h]; rfl
theorem Ex.assignX {c : String} (h : EvX M ρ σ a c σ₁) : Ex M (.assign k a :: r) ρ σ (some (.exc c, ρ, σ₁)) := by
  show bindS (bindE (ev M.P M.cl M.hd a ρ σ) ρ _) _ = _
  rw [show ev M.P M.cl M.hd a ρ σ = _ from h]; rfl
theorem Ex.retX {c : String} (h : EvX M ρ σ a c σ₁) : Ex M (.ret a :: r) ρ σ (some (.exc c, ρ, σ₁)) := by
  show bindS (bindE (ev M.P M.cl M.hd a ρ σ) ρ _) _ = _
  rw [show ev M.P M.cl M.hd a ρ σ = _ from h]; rfl
theorem Ex.raise {P : Prog} {cl : Cl} {c : String} {s : Str} : Ex ⟨P, cl, false, true⟩ (.raise c s :: r) ρ σ (some (.exc c, ρ, σ)) := rfl
theorem Ex.tryOk {P : Prog} {cl : Cl} {dr : Bool} {c : String} {h : List S} (q : Ex ⟨P, cl, false, false⟩ tb ρ σ (some (.ret v, ρ', σ₁))) : Ex ⟨P, cl, false, dr⟩ (.tryx tb c k h :: r) ρ σ (some (.ret v, ρ', σ₁)) := by
  show bindS (catchS (execs P cl false false tb ρ σ) _) _ = _
  rw [show execs P cl false false tb ρ σ = _ from q]; rfl
theorem Ex.tryOn {P : Prog} {cl : Cl} {dr : Bool} {c : String} {h : List S} (q : Ex ⟨P, cl, false, false⟩ tb ρ σ (some (.next, ρ', σ₁))) (z : Ex ⟨P, cl, false, dr⟩ r ρ' σ₁ R) : Ex ⟨P, cl, false, dr⟩ (.tryx tb c k h :: r) ρ σ R := by
  show bindS (catchS (execs P cl false false tb ρ σ) _) _ = _
  rw [show execs P cl false false tb ρ σ = _ from q]; exact z
theorem Ex.tryX {P : Prog} {cl : Cl} {dr : Bool} {c e : String} {h : List S} {ρ₁ : Rho} (q : Ex ⟨P, cl, false, false⟩ tb ρ σ (some (.exc e, ρ', σ₁))) (hs : P.sub e c = true) (z : Ex ⟨P, cl, true, false⟩ h (upd ρ' k (.exc e)) σ₁ (some (.ret v, ρ₁, σ₂))) : Ex ⟨P, cl, false, dr⟩ (.tryx tb c k h :: r) ρ σ (some (.ret v, fun _ => none, σ₂)) := by
  show bindS (catchS (execs P cl false false tb ρ σ) fun x ρ σ => if P.sub x c = true then unbind (execs P cl true false h (upd ρ k (.exc x)) σ) else none) _ = _
  rw [show execs P cl false false tb ρ σ = _ from q]
  show bindS (if P.sub e c = true then unbind (execs P cl true false h (upd ρ' k (.exc e)) σ₁) else none) _ = _
  rw [if_pos hs, show execs P cl true false h (upd ρ' k (.exc e)) σ₁ = _ from z]; rfl
theorem Ex.forRet (h : Ev M ρ σ a (.lst xs) σ₁) (hl : loop (fun v ρ σ => execs M.P M.cl M.hd M.dr tb (upd ρ k v) σ) xs ρ σ₁ = some (.ret v, ρ', σ₂)) : Ex M (.for1 k a tb :: r) ρ σ (some (.ret v, ρ', σ₂)) := by
  obtain ⟨P, cl, hd, dr⟩ := M
  have e : exec P cl hd dr (.for1 k a tb) ρ σ = some (.ret v, ρ', σ₂) := (bE h).trans ((oO (show itersOf hd σ₁ (.lst xs) = some xs by cases hd <;> rfl)).trans (by
    show loopEnd hd σ₁ (.lst xs) (loop (fun v ρ σ => execs P cl hd dr tb (upd ρ k v) σ) xs ρ σ₁) = _
    rw [hl]; rfl))
  show bindS (exec P cl hd dr (.for1 k a tb) ρ σ) _ = _
  rw [e]; rfl
theorem loop_ret {f : V → Rho → St → RS} (h : f x ρ σ = some (.ret v, ρ', σ₁)) : loop f (x :: xs) ρ σ = some (.ret v, ρ', σ₁) := by
  show bindS (f x ρ σ) _ = _
  rw [h]; rfl
theorem loop_next {f : V → Rho → St → RS} (h : f x ρ σ = some (.next, ρ', σ₁)) : loop f (x :: xs) ρ σ = loop f xs ρ' σ₁ := bS h
theorem call_atX {P : Prog} {n : Nat} {hd : Bool} {c f e : String} {args : List V} {kws : List (String × V)} {fn : Fn} (hf : P.fns c f = some fn) (hk : kwOk fn args kws = true) (hb : bindP fn.params args kws fn.dflts = some vs) (h : Ex ⟨P, run P n, hd, true⟩ fn.body (rhoOf vs) σ (some (.exc e, ρ, σ₁))) : run P (n + 1) hd c f args kws σ = some (.exc e, σ₁) := by
  refine (oO hf).trans ((if_pos hk).trans ((oO hb).trans ?_))
  rw [show execs P (run P n) hd true fn.body (rhoOf vs) σ = _ from h]; rfl
end
end Lw
namespace Lw
open PySem
theorem pick {α β : Type} {xs : List α} {Q : α → β → Prop} [Inhabited β] (h : ∀ y ∈ xs, ∃ z, Q y z) : ∃ f : α → β, ∀ y ∈ xs, Q y (f y) :=
  ⟨fun y => Classical.epsilon (Q y), fun y hy => Classical.epsilon_spec (h y hy)⟩
theorem place_at {i : Int} {m : Nat} (h0 : 0 ≤ i) (h1 : i < m) (h2 : i < 2 ^ 60) : place i m = some i.toNat := by
  unfold place
  rw [if_pos (by omega), if_pos h0, if_pos h1]
theorem place_mod {c k : Int} {m : Nat} (hk : 0 < k) (hk2 : k < 2 ^ 60) (hm : k ≤ m) : place (c % k) m = some (c % k).toNat ∧ (c % k).toNat < m := by
  have h0 := Int.emod_nonneg c (Int.ne_of_gt hk)
  have h1 := Int.emod_lt_of_pos c hk
  exact ⟨place_at h0 (by omega) (by omega), by omega⟩
theorem drawn {σ : St} {vs : List V} {c k : Int} (hk : 0 < k) (hk2 : k < 2 ^ 60) (hm : k ≤ vs.length) : ∃ x ∈ vs, idxV σ (.lst vs) (.int (c % k)) = some x := by
  obtain ⟨h1, h2⟩ := place_mod (c := c) hk hk2 hm
  refine ⟨vs[(c % k).toNat], List.getElem_mem h2, ?_⟩
  show (place (c % k) vs.length).bind (vs[·]?) = _
  rw [h1]; exact List.getElem?_eq_getElem h2
theorem rng_items {σ : St} {k : Int} (h0 : 0 ≤ k) (h1 : k ≤ 1000) : itemsOf σ (.rng 0 k 1) = some (rngList 0 k 1) := if_pos ⟨by decide, by decide, by omega, by decide, by unfold lim; omega⟩
theorem rng_mem {k : Int} {v : V} (h : v ∈ rngList 0 k 1) : ∃ j : Nat, (j : Int) < k ∧ v = .int j := by
  obtain ⟨j, hj, rfl⟩ := List.mem_map.mp h
  rw [List.mem_range] at hj
  exact ⟨j, by omega, congrArg V.int (by omega)⟩
theorem rng_len {k : Int} : (rngList 0 k 1).length = k.toNat := by
  unfold rngList
  rw [List.length_map, List.length_range]; omega
theorem len_app (a b : Str) : (a ++ b).length = a.length + b.length := by
  show (a.cps ++ b.cps).size = _
  rw [Array.size_append]; rfl
theorem cutL_le {α : Type} (xs : List α) (a b : Nat) : (cutL xs a b).length ≤ xs.length := by
  unfold cutL
  rw [List.length_drop, List.length_take]; omega
theorem cut_len (s : Str) (a b : Nat) : (⟨(cutL s.cps.toList a b).toArray⟩ : Str).length ≤ s.length := by
  show (cutL s.cps.toList a b).toArray.size ≤ s.cps.size
  rw [List.size_toArray]; exact cutL_le ..
theorem asStrs_map (ss : List Str) : asStrs (ss.map .str) = some ss := by
  induction ss with
  | nil => rfl
  | cons s r ih => exact (oO rfl).trans (oO ih)
theorem join_one {ss : List Str} (h : ∀ s ∈ ss, s.length = 1) : (ss.map (·.length)).sum = ss.length := by
  induction ss with
  | nil => rfl
  | cons s r ih =>
    rw [List.map_cons, List.sum_cons, ih fun x hx => h x (List.mem_cons_of_mem _ hx), h s (List.mem_cons_self ..), List.length_cons, Nat.add_comm]
theorem join_size : ∀ (ss : List Str), (Str.join ⟨#[]⟩ ss).length = (ss.map (·.length)).sum
  | [] => rfl
  | [x] => (Nat.add_zero _).symm
  | x :: y :: r => by
    show (x.cps ++ #[] ++ ((⟨#[]⟩ : Str).join (y :: r)).cps).size = _
    rw [Array.size_append, Array.size_append, show ((⟨#[]⟩ : Str).join (y :: r)).cps.size = _ from join_size (y :: r)]; rfl
theorem get_set (σ : St) (i j : Nat) (o : O) : (σ.set i o).get j = if j = i then some o else σ.get j := rfl
theorem get_new (σ : St) (j : Nat) (o : O) : (σ.new o).get j = if j = σ.n then some o else σ.get j := rfl
theorem get_set_ne {σ : St} {i j : Nat} {o : O} (h : j ≠ i) : (σ.set i o).get j = σ.get j := if_neg h
theorem get_set_eq {σ : St} {i : Nat} {o : O} : (σ.set i o).get i = some o := if_pos rfl
theorem get_new_lt {σ : St} {j : Nat} {o : O} (h : j < σ.n) : (σ.new o).get j = σ.get j := if_neg (Nat.ne_of_lt h)
theorem get_new_eq {σ : St} {o : O} : (σ.new o).get σ.n = some o := if_pos rfl
theorem set_same {σ : St} {i : Nat} {o : O} (h : σ.get i = some o) : σ.set i o = σ := by
  obtain ⟨n, f⟩ := σ
  show St.mk n _ = St.mk n f
  congr 1; funext j
  by_cases e : j = i
  · subst e; rw [if_pos rfl]; exact h.symm
  · rw [if_neg e]
theorem set_set {σ : St} {i : Nat} {o o' : O} : (σ.set i o).set i o' = σ.set i o' := by
  show St.mk _ _ = St.mk _ _
  congr 1; funext j
  by_cases e : j = i
  · rw [if_pos e, if_pos e]
  · rw [if_neg e, if_neg e]; exact if_neg e
end Lw
namespace Lw
open PySem
theorem eqvAll_self {xs : List PyData} (h : ∀ x ∈ xs, PyData.eqv x x = true) : PyData.eqvAll xs xs = true := by
  induction xs with
  | nil => rfl
  | cons x r ih => exact Bool.and_eq_true_iff.mpr ⟨h x (List.mem_cons_self ..), ih fun y hy => h y (List.mem_cons_of_mem _ hy)⟩
theorem mapO_mem {α β : Type} {f : α → Option β} : ∀ {l : List α} {ys : List β}, mapO f l = some ys → ∀ y ∈ ys, ∃ x, f x = some y
  | [], ys, h, y, hy => by cases h; cases hy
  | a :: r, ys, h, y, hy => by
    cases h1 : f a with
    | none => rw [mapO, h1] at h; cases h
    | some b =>
      cases h2 : mapO f r with
      | none => rw [mapO, h1, h2] at h; cases h
      | some bs =>
        rw [mapO, h1, h2] at h; cases h
        rcases List.mem_cons.mp hy with rfl | hy
        · exact ⟨a, h1⟩
        · exact mapO_mem h2 y hy
theorem flat_self {v : V} {d : PyData} (h : flatD v = some d) : PyData.eqv d d = true := by
  cases v <;> cases h
  · rfl
  · exact beq_self_eq_true _
  · exact beq_self_eq_true _
  · exact beq_self_eq_true _
theorem eqv_data {σ : St} : ∀ (n : Nat) (v : V) (d : PyData), dataOf σ n v = some d → PyData.eqv d d = true := by
  intro n
  induction n with
  | zero => exact fun v d h => flat_self h
  | succ n ih =>
    intro v d h
    have key : ∀ vs ds, mapO (dataOf σ n) vs = some ds → PyData.eqvAll ds ds = true := fun vs ds e => eqvAll_self fun y hy => by
      obtain ⟨x, e⟩ := mapO_mem e y hy
      exact ih x y e
    cases hf : flatD v with
    | some d' => rw [dataOf, hf] at h; cases h; exact flat_self hf
    | none =>
      rw [dataOf, hf] at h
      have h : seqD (mapO (dataOf σ n)) σ v = some d := h
      cases v with
      | tup vs => obtain ⟨ds, e, rfl⟩ := Option.map_eq_some_iff.mp h; exact key vs ds e
      | lst vs => obtain ⟨ds, e, rfl⟩ := Option.map_eq_some_iff.mp h; exact key vs ds e
      | ref i =>
        cases hl : listAt σ i with
        | none => rw [seqD, hl] at h; cases h
        | some vs =>
          rw [seqD, hl] at h
          obtain ⟨ds, e, rfl⟩ := Option.map_eq_some_iff.mp (show (mapO (dataOf σ n) vs).map PyData.list = some d from h)
          exact key vs ds e
      | _ => cases h
theorem mapO_all {α β : Type} {f : α → Option β} {l : List α} (h : ∀ x ∈ l, ∃ y, f x = some y) : ∃ ys, mapO f l = some ys := by
  induction l with
  | nil => exact ⟨[], rfl⟩
  | cons a r ih =>
    obtain ⟨y, e⟩ := h a (List.mem_cons_self ..)
    obtain ⟨ys, e'⟩ := ih fun x hx => h x (List.mem_cons_of_mem _ hx)
    exact ⟨y :: ys, (oO e).trans (oO e')⟩
section
variable {σ : St} {vs : List V} {x y : V} {t : Nat} {l : Bool}
theorem listAt_of (h : σ.get t = some (.list l vs)) : listAt σ t = some vs := by unfold listAt; rw [h]; rfl
theorem eq_seq (hx : seqOf σ x = some vs) (hy : seqOf σ y = some vs) (hd : ∀ v ∈ vs, ∃ d, dataOf σ 5 v = some d) : eqV σ x y = some true := by
  obtain ⟨ds, e⟩ := mapO_all hd
  have key : ∀ {z}, seqOf σ z = some vs → dataOf σ 6 z = some (.list ds) := fun {z} h => by
    cases z with
    | lst us => cases h; show (mapO (dataOf σ 5) _).map PyData.list = _; rw [e]; rfl
    | ref i => show onO (listAt σ i) _ = _; rw [show listAt σ i = some vs from h]; show (mapO (dataOf σ 5) vs).map PyData.list = _; rw [e]; rfl
    | _ => cases h
  unfold eqV
  rw [key hx, key hy]
  exact congrArg some (eqv_data 6 x _ (key hx))
theorem eq_empty (hx : seqOf σ x = some vs) (hd : ∀ v ∈ vs, ∃ d, dataOf σ 5 v = some d) : eqV σ x (.lst []) = some vs.isEmpty := by
  obtain ⟨ds, e⟩ := mapO_all hd
  have key : dataOf σ 6 x = some (.list ds) := by
    cases x with
    | lst us => cases hx; show (mapO (dataOf σ 5) _).map PyData.list = _; rw [e]; rfl
    | ref i => show onO (listAt σ i) _ = _; rw [show listAt σ i = some vs from hx]; show (mapO (dataOf σ 5) vs).map PyData.list = _; rw [e]; rfl
    | _ => cases hx
  unfold eqV
  rw [key]
  cases vs with
  | nil => cases e; rfl
  | cons v r =>
    cases ds with
    | nil =>
      cases h1 : dataOf σ 5 v with
      | none => rw [mapO, h1] at e; cases e
      | some b => cases h2 : mapO (dataOf σ 5) r with
        | none => rw [mapO, h1, h2] at e; cases e
        | some bs => rw [mapO, h1, h2] at e; cases e
    | cons d ds => rfl
theorem len_ref (h : σ.get t = some (.list l vs)) : bfV .len [.ref t] σ = some (.ok (.int vs.length), σ) := by
  show retV (((σ.get t).bind O.len).map _) σ = _
  rw [h]; rfl
theorem inst_list (P : Prog) (h : seqOf σ x = some vs) : isinstV P σ x .list = some true := by
  show (seqOf σ x).map _ = _
  rw [h]; rfl
theorem items_ref (h : σ.get t = some (.list l vs)) : itemsOf σ (.ref t) = some vs := oO h
theorem lock_ref (h : σ.get t = some (.list l vs)) : lockV σ (.ref t) = σ.set t (.list true vs) := by unfold lockV; simp only [h]; rfl
theorem unlock_ref {σ₁ : St} (h : σ.get t = some (.list l vs)) : unlockV σ (.ref t) σ₁ = σ₁.set t (.list l vs) := by unfold unlockV; simp only [h]
theorem relock (h : σ.get t = some (.list l vs)) : unlockV σ (.ref t) (lockV σ (.ref t)) = σ := by rw [lock_ref h, unlock_ref h, set_set, set_same h]
theorem clear_at (h : σ.get t = some (.list false vs)) : bmV .clear (.ref t) [] σ = some (.ok .none, σ.set t (.list false [])) := by
  show onO ((σ.get t).bind O.free) _ = _
  rw [h]; rfl
theorem append_at {v : V} (h : σ.get t = some (.list false vs)) (hl : vs.length < lim) : bmV .append (.ref t) [v] σ = some (.ok .none, σ.set t (.list false (vs ++ [v]))) := by
  show onO ((σ.get t).bind O.free) _ = _
  rw [h]; exact if_pos hl
theorem pre_list {m : Bm} (h : σ.get t = some (.list l vs)) (hm : m.knd = 1) : bmPre σ m (.ref t) = true := by unfold bmPre kndV; simp only [h]; rw [hm]; rfl
theorem cmp_ne {b : Bool} (h : eqV σ x y = some b) : cmpV σ .ne x y = some (!b) := by show (eqV σ x y).map _ = _; rw [h]; rfl
theorem eq_int {i j : Int} : cmpV σ .eq (.int i) (.int j) = some (i == j) := rfl
theorem ne_int {i j : Int} : cmpV σ .ne (.int i) (.int j) = some (!(i == j)) := rfl
theorem ne_self {i : Int} : cmpV σ .ne (.int i) (.int i) = some false := ne_int.trans (by rw [beq_self_eq_true]; rfl)
end
end Lw
namespace Lw
open PySem
theorem nodup_len {α : Type} [BEq α] [LawfulBEq α] : ∀ {l m : List α}, l.Nodup → (∀ x ∈ l, x ∈ m) → l.length ≤ m.length
  | [], m, _, _ => Nat.zero_le _
  | x :: r, m, hn, hs => by
    obtain ⟨h1, h2⟩ := List.nodup_cons.mp hn
    have hm := hs x (List.mem_cons_self ..)
    have ih := nodup_len (m := m.erase x) h2 fun y hy => (List.mem_erase_of_ne fun (e : y = x) => h1 (e ▸ hy)).mpr (hs y (List.mem_cons_of_mem _ hy))
    rw [List.length_erase_of_mem hm] at ih
    have : 0 < m.length := List.length_pos_of_mem hm
    rw [List.length_cons]; omega
structure KD (ss : List Str) (D : List (Str × V)) : Prop where
  nd : (D.map (·.1)).Nodup
  at_ : ∀ kv ∈ D, kv.1 ∈ ss ∧ ∃ s, kv.2 = .str s
theorem KD.nil {ss : List Str} : KD ss [] := ⟨List.nodup_nil, fun _ h => nomatch h⟩
theorem KD.len {ss : List Str} {D : List (Str × V)} (h : KD ss D) : D.length ≤ ss.length := by
  have := nodup_len h.nd (m := ss) fun x hx => by obtain ⟨kv, hk, rfl⟩ := List.mem_map.mp hx; exact (h.at_ kv hk).1
  rw [List.length_map] at this; exact this
theorem KD.st {ss : List Str} {D : List (Str × V)} {k x : Str} (h : KD ss D) (hk : k ∈ ss) : KD ss (st D k (.str x)) := by
  unfold Lw.st
  split
  · refine ⟨?_, fun kv hkv => ?_⟩
    · rw [List.map_map, show ((fun x : Str × V => x.1) ∘ fun kv : Str × V => if kv.1 = k then (kv.1, V.str x) else kv) = fun kv => kv.1 by funext kv; show (if _ then _ else _ : Str × V).1 = _; split <;> rfl]; exact h.nd
    · obtain ⟨q, hq, rfl⟩ := List.mem_map.mp hkv
      split
      · exact ⟨(h.at_ q hq).1, _, rfl⟩
      · exact h.at_ q hq
  · rename_i hn
    refine ⟨?_, fun kv hkv => ?_⟩
    · rw [List.map_append]
      refine List.nodup_append.mpr ⟨h.nd, List.nodup_cons.mpr ⟨(fun h => nomatch h), List.nodup_nil⟩, fun a ha b hb e => hn ?_⟩
      cases List.mem_singleton.mp hb
      obtain ⟨q, hq, e2⟩ := List.mem_map.mp ha
      exact List.any_eq_true.mpr ⟨q, hq, decide_eq_true (e2.trans e)⟩
    · rcases List.mem_append.mp hkv with q | q
      · exact h.at_ kv q
      · rw [List.mem_singleton.mp q]; exact ⟨hk, _, rfl⟩
theorem KD.rm {ss : List Str} {D : List (Str × V)} {k : Str} (h : KD ss D) : KD ss (rm D k) :=
  ⟨h.nd.sublist (List.filter_sublist.map _), fun kv hkv => h.at_ kv (List.mem_filter.mp hkv).1⟩
theorem lk_mem {D : List (Str × V)} {k : Str} (h : k ∈ D.map (·.1)) : ∃ v, lk D k = some v := by
  obtain ⟨kv, hk, rfl⟩ := List.mem_map.mp h
  unfold lk
  cases q : D.find? (fun e => decide (e.1 = kv.1)) with
  | none => exact absurd (decide_eq_true rfl) (List.find?_eq_none.mp q kv hk)
  | some e => exact ⟨e.2, rfl⟩
theorem lk_in {D : List (Str × V)} {k : Str} {v : V} (h : lk D k = some v) : (k, v) ∈ D := by
  obtain ⟨e, he, rfl⟩ := Option.map_eq_some_iff.mp h
  have := List.find?_some he
  rw [← of_decide_eq_true this]; exact List.mem_of_find?_eq_some he
noncomputable def rowStep (D : List (Str × V)) : V → List (Str × V)
  | .tup [_, _, .str w, .str k, x] => if w == (Str.ofString "put") then st D k x else if (lk D k).isSome then rm D k else D
  | _ => D
noncomputable def pairStep (D : List (Str × V)) : V → List (Str × V)
  | .tup [.str k, x] => st D k x
  | _ => D
noncomputable def rowNum : V → Int
  | .tup (.int i :: _) => i
  | _ => 0
noncomputable def pairsOf (D : List (Str × V)) : List V := ((((D.map (·.1)).mergeSort strLe)).map V.str).map fun y => .tup [y, (withStr y (lk D)).getD .none]
section
variable {σ : St} {d : Nat} {l : Bool} {D : List (Str × V)}
theorem asStrs_keys : asStrs (D.map fun kv => V.str kv.1) = some (D.map (·.1)) := by
  have := asStrs_map (D.map (·.1))
  rw [List.map_map] at this; exact this
theorem sorted_at (h : σ.get d = some (.ds l D)) (hl : D.length < 64) : bfV (.sorted false false) [.ref d] σ = some (.ok (.lst (((D.map (·.1)).mergeSort strLe).map .str)), σ) := by
  show onO (onO (σ.get d) O.keys) _ = _
  rw [h]
  show onO (sortV false (D.map fun kv => V.str kv.1)) _ = _
  unfold sortV
  rw [if_pos (by rw [List.length_map]; exact hl)]
  show onO ((asStrs _).map _) _ = _
  rw [asStrs_keys]; rfl
theorem item_ds {k : Str} {v : V} (h : σ.get d = some (.ds l D)) (hv : lk D k = some v) : idxV σ (.ref d) (.str k) = some v := by
  show (σ.get d).bind _ = _
  rw [h]; exact hv
theorem put_ds {k : Str} {v : V} (h : σ.get d = some (.ds false D)) (hl : D.length < lim) : setidxV (.ref d) (.str k) v σ = some (σ.set d (.ds false (st D k v))) := by
  show onO (σ.get d) _ = _
  rw [h]
  show (if _ then _ else _ : Option O).map _ = _
  rw [if_pos hl]; rfl
theorem in_ds {k : Str} (h : σ.get d = some (.ds l D)) : cmpV σ .isin (.str k) (.ref d) = some (lk D k).isSome := by
  show onO (σ.get d) _ = _
  rw [h]; rfl
theorem pop_ds {k : Str} {v : V} (h : σ.get d = some (.ds false D)) (hv : lk D k = some v) : bmV .pop (.ref d) [.str k] σ = some (.ok v, σ.set d (.ds false (rm D k))) := by
  show onO (σ.get d) _ = _
  rw [h]
  show onO ((lk D k).map _) _ = _
  rw [hv]; rfl
theorem pre_ds {m : Bm} (h : σ.get d = some (.ds l D)) (hm : m.knd = 2) : bmPre σ m (.ref d) = true := by unfold bmPre kndV; simp only [h]; rw [hm]; rfl
theorem eq_str {a b : Str} : cmpV σ .eq (.str a) (.str b) = some (a == b) := rfl
end
end Lw
namespace Lw
open PySem
theorem loop_fold {α : Type} {f : V → Rho → St → RS} (step : α → V → α) (I : Nat → α → Rho → St → Prop) : ∀ (xs : List V) (a : α) (ρ : Rho) (σ : St), I xs.length a ρ σ → (∀ v ∈ xs, ∀ m b ρ σ, I (m + 1) b ρ σ → ∃ ρ' σ', f v ρ σ = some (.next, ρ', σ') ∧ I m (step b v) ρ' σ') → ∃ ρ' σ', loop f xs ρ σ = some (.next, ρ', σ') ∧ I 0 (xs.foldl step a) ρ' σ'
  | [], a, ρ, σ, h, _ => ⟨ρ, σ, rfl, h⟩
  | v :: r, a, ρ, σ, h, hs => by
    obtain ⟨ρ₁, σ₁, e, h1⟩ := hs v (List.mem_cons_self ..) _ a ρ σ h
    obtain ⟨ρ₂, σ₂, e2, h2⟩ := loop_fold step I r (step a v) ρ₁ σ₁ h1 fun u hu => hs u (List.mem_cons_of_mem _ hu)
    exact ⟨ρ₂, σ₂, (bS e).trans e2, h2⟩
structure Fr (A : List Nat) (σ σ' : St) : Prop where
  n : σ.n ≤ σ'.n
  at_ : ∀ j, j < σ.n → j ∉ A → σ'.get j = σ.get j
theorem Fr.refl {A : List Nat} {σ : St} : Fr A σ σ := ⟨Nat.le_refl _, fun _ _ _ => rfl⟩
theorem Fr.trans {A : List Nat} {a b c : St} (h : Fr A a b) (k : Fr A b c) : Fr A a c := ⟨Nat.le_trans h.n k.n, fun j hj hA => (k.at_ j (Nat.lt_of_lt_of_le hj h.n) hA).trans (h.at_ j hj hA)⟩
theorem Fr.mono {A B : List Nat} {a b : St} (h : Fr A a b) (k : ∀ j ∈ A, j ∈ B) : Fr B a b := ⟨h.n, fun j hj hB => h.at_ j hj fun q => hB (k j q)⟩
theorem Fr.set {A : List Nat} {σ σ' : St} {i : Nat} {o : O} (h : Fr A σ σ') (hi : i ∈ A ∨ σ.n ≤ i) : Fr A σ (σ'.set i o) := ⟨h.n, fun j hj hA => (get_set_ne (hi.elim (fun q (e : j = i) => hA (e ▸ q)) fun q (e : j = i) => by omega)).trans (h.at_ j hj hA)⟩
theorem Fr.new {A : List Nat} {σ σ' : St} {o : O} (h : Fr A σ σ') : Fr A σ (σ'.new o) := ⟨Nat.le_succ_of_le h.n, fun j hj hA => (get_new_lt (Nat.lt_of_lt_of_le hj h.n)).trans (h.at_ j hj hA)⟩
theorem unlock_get {σ σ' : St} {t j : Nat} {l : Bool} {vs : List V} (h : σ.get t = some (.list l vs)) : (unlockV σ (.ref t) σ').get j = if j = t then σ.get t else σ'.get j := by
  rw [unlock_ref h, get_set]
  split
  · exact h.symm
  · rfl
section
variable {M : Mc} {ρ : Rho} {σ : St} {R : RS} {r : List S}
theorem row_exec {kv d : Nat} {de : E} {D : List (Str × V)} {a b : V} {w k x : Str} (hv : ρ kv = some (.tup [a, b, .str w, .str k, .str x])) (hde : Ev M ρ σ de (.ref d) σ) (hd : σ.get d = some (.ds false D)) (hl : D.length < lim)
    (q : Ex M r ρ (σ.set d (.ds false (rowStep D (.tup [a, b, .str w, .str k, .str x])))) R) :
    Ex M (.ite (.cmp .eq (.idx (.var kv) (.cInt 2)) (.cStr "put")) [.setidx de (.idx (.var kv) (.cInt 3)) (.idx (.var kv) (.cInt 4))] [.ite (.cmp .isin (.idx (.var kv) (.cInt 3)) de) [.expr (.bmeth .pop de [(.idx (.var kv) (.cInt 3))])] []] :: r) ρ σ R := by
  have hc : Ev M ρ σ (.cmp .eq (.idx (.var kv) (.cInt 2)) (.cStr "put")) (.bool (w == Str.ofString "put")) σ := .cmp (.idx (.var hv) .cInt rfl) .cStr eq_str
  have q : Ex M r ρ (σ.set d (.ds false (if (w == Str.ofString "put") = true then st D k (.str x) else if (lk D k).isSome = true then rm D k else D))) R := q
  cases hw : w == Str.ofString "put" with
  | true =>
    rw [hw] at hc q
    exact .iteT hc rfl (.setidx (.idx (.var hv) .cInt rfl) hde (.idx (.var hv) .cInt rfl) (put_ds hd hl) q)
  | false =>
    rw [hw, if_neg Bool.false_ne_true] at q
    rw [hw] at hc
    have hi : Ev M ρ σ (.cmp .isin (.idx (.var kv) (.cInt 3)) de) (.bool (lk D k).isSome) σ := .cmp (.idx (.var hv) .cInt rfl) hde (in_ds hd)
    cases hk : lk D k with
    | some v =>
      rw [hk] at hi q
      exact .iteF hc rfl (.iteT hi rfl (.expr (.bmeth hde (pre_ds hd rfl) (.cons (.idx (.var hv) .cInt rfl) .nil) rfl (pop_ds hd hk)) q))
    | none =>
      rw [hk] at hi q
      rw [show (if (none : Option V).isSome = true then rm D k else D) = D from rfl, set_same hd] at q
      exact .iteF hc rfl (.iteF hi rfl q)
end
end Lw
namespace Lw
open PySem
structure SeqAt (σ : St) (x : V) (xs : List V) (d : Nat) : Prop where
  items : itemsOf σ x = some xs
  lock : (lockV σ x).get d = σ.get d ∧ (lockV σ x).n = σ.n
  insts : ∀ j c fs, σ.get j = some (.inst c fs) → (lockV σ x).get j = some (.inst c fs)
  back : ∀ S : St, S.n = σ.n → (∀ j, j ≠ d → S.get j = (lockV σ x).get j) → (unlockV σ x S).n = σ.n ∧ (unlockV σ x S).get d = S.get d ∧ ∀ j, j ≠ d → (unlockV σ x S).get j = σ.get j
section
variable {σ : St} {xs : List V} {d g : Nat} {l : Bool}
theorem SeqAt.tup : SeqAt σ (.tup xs) xs d := ⟨rfl, ⟨rfl, rfl⟩, fun _ _ _ h => h, fun _ h k => ⟨h, rfl, k⟩⟩
theorem SeqAt.lst : SeqAt σ (.lst xs) xs d := ⟨rfl, ⟨rfl, rfl⟩, fun _ _ _ h => h, fun _ h k => ⟨h, rfl, k⟩⟩
theorem SeqAt.ref (hg : σ.get g = some (.list l xs)) (hd : g ≠ d) : SeqAt σ (.ref g) xs d := by
  refine ⟨items_ref hg, ?_, fun j c fs h => ?_, fun S hn h => ?_⟩
  · rw [lock_ref hg]; exact ⟨get_set_ne hd.symm, rfl⟩
  · rw [lock_ref hg, get_set_ne fun e => by rw [e, hg] at h; cases h]; exact h
  · rw [unlock_ref hg]
    refine ⟨hn, get_set_ne hd.symm, fun j hj => ?_⟩
    by_cases e : j = g
    · subst e; exact get_set_eq.trans hg.symm
    · rw [get_set_ne e, h j hj, lock_ref hg, get_set_ne e]
structure DictTo (σ σ' : St) (d : Nat) (D : List (Str × V)) : Prop where
  ds : σ'.get d = some (.ds false D)
  n : σ'.n = σ.n
  at_ : ∀ j, j ≠ d → σ'.get j = σ.get j
theorem dict_loop {f : V → Rho → St → RS} {x : V} {ss : List Str} {D : List (Str × V)} {ρ : Rho} (step : List (Str × V) → V → List (Str × V)) (Inv : Rho → Prop) (q : SeqAt σ x xs d) (hd : σ.get d = some (.ds false D)) (hD : KD ss D) (hI : Inv ρ)
    (hs : ∀ v ∈ xs, ∀ ρ S D, Inv ρ → S.get d = some (.ds false D) → KD ss D → (∀ j, j ≠ d → S.get j = (lockV σ x).get j) → KD ss (step D v) ∧ ∃ ρ', f v ρ S = some (.next, ρ', S.set d (.ds false (step D v))) ∧ Inv ρ') :
    ∃ ρ' S, loop f xs ρ (lockV σ x) = some (.next, ρ', S) ∧ Inv ρ' ∧ DictTo σ (unlockV σ x S) d (xs.foldl step D) ∧ KD ss (xs.foldl step D) := by
  obtain ⟨ρ', S, e, h1, h2, h3, h4, h5⟩ := loop_fold (f := f) step (fun _ D ρ S => Inv ρ ∧ S.get d = some (.ds false D) ∧ KD ss D ∧ S.n = σ.n ∧ ∀ j, j ≠ d → S.get j = (lockV σ x).get j) xs D ρ (lockV σ x) ⟨hI, q.lock.1.trans hd, hD, q.lock.2, fun _ _ => rfl⟩ fun v hv _ D ρ S ⟨h1, h2, h3, h4, h5⟩ => by
    obtain ⟨k1, ρ', k2, k3⟩ := hs v hv ρ S D h1 h2 h3 h5
    exact ⟨ρ', _, k2, k3, get_set_eq, k1, h4, fun j hj => (get_set_ne hj).trans (h5 j hj)⟩
  obtain ⟨b1, b2, b3⟩ := q.back S h4 h5
  exact ⟨ρ', S, e, h1, ⟨b2.trans h2, b1, b3⟩, h3⟩
noncomputable def PairIn (ss : List Str) (v : V) : Prop := ∃ k x : Str, v = .tup [.str k, .str x] ∧ k ∈ ss
theorem KD.pair {ss : List Str} {D : List (Str × V)} {v : V} (h : KD ss D) (hv : PairIn ss v) : KD ss (pairStep D v) := by
  obtain ⟨k, x, rfl, hk⟩ := hv; exact h.st hk
theorem pair_exec {M : Mc} {ρ : Rho} {R : RS} {r : List S} {kv : Nat} {de : E} {ss : List Str} {D : List (Str × V)} {v : V} (hv : ρ kv = some v) (hp : PairIn ss v) (hde : Ev M ρ σ de (.ref d) σ) (hd : σ.get d = some (.ds false D)) (hl : D.length < lim) (q : Ex M r ρ (σ.set d (.ds false (pairStep D v))) R) :
    Ex M (.setidx de (.idx (.var kv) (.cInt 0)) (.idx (.var kv) (.cInt 1)) :: r) ρ σ R := by
  obtain ⟨k, x, rfl, hk⟩ := hp
  exact .setidx (.idx (.var hv) .cInt rfl) hde (.idx (.var hv) .cInt rfl) (put_ds hd hl) q
end
end Lw
namespace Lw
open PySem
section
variable {M : Mc} {ρ : Rho} {σ : St} {a b d : E} {p q r : Bool}
theorem Ev.and2 (ha : Ev M ρ σ a (.bool p) σ) (hb : Ev M ρ σ b (.bool q) σ) : Ev M ρ σ (.bool true [a, b]) (.bool (p && q)) σ := by
  cases p with
  | true => exact .boolC ha rfl (.bool1 hb)
  | false => exact .boolS ha rfl
theorem Ev.and3 (ha : Ev M ρ σ a (.bool p) σ) (hb : Ev M ρ σ b (.bool q) σ) (hd : Ev M ρ σ d (.bool r) σ) : Ev M ρ σ (.bool true [a, b, d]) (.bool (p && (q && r))) σ := by
  cases p with
  | true => exact .boolC ha rfl (Ev.and2 (p := q) (q := r) hb hd)
  | false => exact .boolS ha rfl
theorem idx_map {ss : List Str} {j : Nat} (h : j < ss.length) (h2 : j < 2 ^ 60) : idxV σ (.lst (ss.map .str)) (.int j) = some (.str ss[j]) := by
  show (place j (ss.map V.str).length).bind ((ss.map V.str)[·]?) = _
  rw [place_at (by omega) (by rw [List.length_map]; omega) (by omega)]
  show (ss.map V.str)[j]? = _
  rw [List.getElem?_map, List.getElem?_eq_getElem h]; rfl
end
end Lw
namespace Lw
open PySem
section
variable {κ ν μ : Type} [DecidableEq κ] {D : List (κ × ν)} {k j : κ} {v : ν}
theorem lkCons {e : κ × ν} : lk (e :: D) k = if e.1 = k then some e.2 else lk D k := by
  unfold lk
  rw [List.find?_cons]
  by_cases h : e.1 = k
  · rw [if_pos h, decide_eq_true h]; rfl
  · rw [if_neg h, decide_eq_false h]
theorem lk_none {D : List (κ × ν)} {k : κ} (h : ¬ (D.any fun kv => decide (kv.1 = k)) = true) : lk D k = none := by
  unfold lk
  cases q : D.find? (fun kv => decide (kv.1 = k)) with
  | none => rfl
  | some e => exact absurd (List.any_eq_true.mpr ⟨e, List.mem_of_find?_eq_some q, List.find?_some q⟩) h
theorem lk_app {D E : List (κ × ν)} : lk (D ++ E) k = (lk D k).or (lk E k) := by
  unfold lk
  rw [List.find?_append]
  cases D.find? (fun kv => decide (kv.1 = k)) <;> rfl
theorem lk_st : lk (st D k v) j = if j = k then some v else lk D j := by
  unfold st
  split
  · rename_i h
    induction D with
    | nil => cases h
    | cons x D ih =>
      obtain ⟨e, he, hk⟩ := List.any_eq_true.mp h
      rw [List.map_cons, lkCons, lkCons]
      by_cases hx : x.1 = k
      · rw [if_pos hx]
        by_cases hj : j = k
        · subst hj; rw [if_pos rfl, if_pos hx]
        · rw [if_neg hj, if_neg (fun q : x.1 = j => hj (q ▸ hx)), if_neg (fun q : x.1 = j => hj (q ▸ hx))]
          by_cases hD : (D.any fun kv => decide (kv.1 = k)) = true
          · have := ih hD
            rw [if_neg hj] at this; exact this
          · congr 1
            exact (List.map_congr_left fun q hq => if_neg fun z => hD (List.any_eq_true.mpr ⟨q, hq, decide_eq_true z⟩)).trans (List.map_id _)
      · rw [if_neg hx]
        rcases List.mem_cons.mp he with rfl | he
        · exact absurd (of_decide_eq_true hk) hx
        · have hD : (D.any fun kv => decide (kv.1 = k)) = true := List.any_eq_true.mpr ⟨e, he, hk⟩
          by_cases hxj : x.1 = j
          · rw [if_pos hxj, if_pos hxj, if_neg fun q => hx (hxj.trans q)]
          · rw [if_neg hxj, if_neg hxj]
            exact ih hD
  · rename_i h
    rw [lk_app, lkCons]
    by_cases hj : j = k
    · subst hj; rw [if_pos rfl, if_pos rfl, lk_none h]; rfl
    · rw [if_neg hj, if_neg fun q => hj q.symm]
      cases lk D j <;> rfl
theorem lk_rm : lk (rm D k) j = if j = k then none else lk D j := by
  unfold rm
  induction D with
  | nil => split <;> rfl
  | cons x D ih =>
    by_cases hx : x.1 = k
    · rw [List.filter_cons_of_neg (by simp [hx]), ih]
      by_cases hj : j = k
      · rw [if_pos hj, if_pos hj]
      · rw [if_neg hj, if_neg hj, lkCons, if_neg fun q => hj (q.symm.trans hx)]
    · rw [List.filter_cons_of_pos (by simp [hx]), lkCons, lkCons, ih]
      by_cases hj : j = k
      · rw [if_pos hj, if_pos hj, if_neg fun q => hx (q.trans hj)]
      · rw [if_neg hj, if_neg hj]
theorem st_len : (st D k v).length ≤ D.length + 1 := by
  unfold st
  split
  · rw [List.length_map]; omega
  · rw [List.length_append]; exact Nat.le_refl _
theorem rm_len : (rm D k).length ≤ D.length := List.length_filter_le ..
theorem lk_key (h : k ∈ D.map (·.1)) : ∃ v, lk D k = some v := by
  obtain ⟨e, he, rfl⟩ := List.mem_map.mp h
  cases q : lk D e.1 with
  | some v => exact ⟨v, rfl⟩
  | none =>
    obtain h := Option.map_eq_none_iff.mp q
    exact absurd (decide_eq_true rfl) (List.find?_eq_none.mp h e he)
noncomputable def vals (f : ν → μ) (D : List (κ × ν)) : List (κ × μ) := D.map fun kv => (kv.1, f kv.2)
variable {f : ν → μ}
theorem lk_vals : lk (vals f D) k = (lk D k).map f := by
  unfold vals
  induction D with
  | nil => rfl
  | cons x D ih =>
    rw [List.map_cons, lkCons, lkCons]
    by_cases h : x.1 = k
    · rw [if_pos h, if_pos h]; rfl
    · rw [if_neg h, if_neg h]; exact ih
theorem st_vals : st (vals f D) k (f v) = vals f (st D k v) := by
  have e : ((vals f D).any fun kv => decide (kv.1 = k)) = (D.any fun kv => decide (kv.1 = k)) := by unfold vals; rw [List.any_map]; rfl
  unfold st
  rw [e]
  split
  · unfold vals
    rw [List.map_map, List.map_map]
    exact List.map_congr_left fun q _ => by
      show (if q.1 = k then (q.1, f v) else (q.1, f q.2)) = ((if q.1 = k then (q.1, v) else q).1, f (if q.1 = k then (q.1, v) else q).2)
      split <;> rfl
  · unfold vals; rw [List.map_append]; rfl
theorem rm_vals : rm (vals f D) k = vals f (rm D k) := by
  unfold rm vals
  rw [List.filter_map]; rfl
omit [DecidableEq κ] in
theorem keys_vals : (vals f D).map (·.1) = D.map (·.1) := by unfold vals; rw [List.map_map]; rfl
omit [DecidableEq κ] in
theorem len_vals : (vals f D).length = D.length := List.length_map ..
end
section
variable {σ σ₁ : St} {d : Nat} {l : Bool} {D : List (Int × V)} {k : Int} {v : V}
theorem item_di (h : σ.get d = some (.di l D)) (hv : lk D k = some v) : idxV σ (.ref d) (.int k) = some v := by
  show (σ.get d).bind _ = _
  rw [h]; exact hv
theorem put_di (h : σ.get d = some (.di false D)) (hl : D.length < lim) : setidxV (.ref d) (.int k) v σ = some (σ.set d (.di false (st D k v))) := by
  show onO (σ.get d) _ = _
  rw [h]
  show (if _ then _ else _ : Option O).map _ = _
  rw [if_pos hl]; rfl
theorem in_di (h : σ.get d = some (.di l D)) : cmpV σ .isin (.int k) (.ref d) = some (lk D k).isSome := by
  show onO (σ.get d) _ = _
  rw [h]; rfl
theorem notin_di (h : σ.get d = some (.di l D)) : cmpV σ .notin (.int k) (.ref d) = some (!(lk D k).isSome) := by
  show (onO (σ.get d) _).map _ = _
  rw [h]; rfl
theorem notin_ds {D : List (Str × V)} {k : Str} (h : σ.get d = some (.ds l D)) : cmpV σ .notin (.str k) (.ref d) = some (!(lk D k).isSome) := by
  show (onO (σ.get d) _).map _ = _
  rw [h]; rfl
theorem pop_di (h : σ.get d = some (.di false D)) (hv : lk D k = some v) : bmV .pop (.ref d) [.int k] σ = some (.ok v, σ.set d (.di false (rm D k))) := by
  show onO (σ.get d) _ = _
  rw [h]
  show onO ((lk D k).map _) _ = _
  rw [hv]; rfl
theorem pre_di {m : Bm} (h : σ.get d = some (.di l D)) (hm : m.knd = 2) : bmPre σ m (.ref d) = true := by unfold bmPre kndV; simp only [h]; rw [hm]; rfl
theorem items_di (h : σ.get d = some (.di l D)) : itemsOf σ (.ref d) = some (D.map fun kv => .int kv.1) := oO h
theorem lock_di (h : σ.get d = some (.di l D)) : lockV σ (.ref d) = σ.set d (.di true D) := by unfold lockV; simp only [h]; rfl
theorem unlock_di (h : σ.get d = some (.di l D)) : unlockV σ (.ref d) σ₁ = σ₁.set d (.di l D) := by unfold unlockV; simp only [h]
theorem relock_di (h : σ.get d = some (.di l D)) : unlockV σ (.ref d) (lockV σ (.ref d)) = σ := by rw [lock_di h, unlock_di h, set_set, set_same h]
theorem attr_at {i : Nat} {c a : String} {fs : List (String × V)} (h : σ.get i = some (.inst c fs)) (hv : lk fs a = some v) : attrV σ (.ref i) a = some v := by
  show onO (σ.get i) _ = _
  rw [h]; exact hv
theorem setattr_at {i : Nat} {c a : String} {fs : List (String × V)} (h : σ.get i = some (.inst c fs)) (hl : fs.length < 100) : setattrV (.ref i) a v σ = some (σ.set i (.inst c (setF fs a v))) := by
  show onO (σ.get i) _ = _
  rw [h]
  show (if _ then _ else _ : Option O).map _ = _
  rw [if_pos hl]; rfl
theorem meth_at {P : Prog} {i : Nat} {c m : String} {fs : List (String × V)} (h : σ.get i = some (.inst c fs)) (hf : ((lk fs m).isNone && (P.fns c m).isSome) = true) : methV P σ (.ref i) m = some c := by
  show onO (σ.get i) _ = _
  rw [h]; exact if_pos hf
end
theorem lim1 : 1 ≤ lim := by decide
theorem lim2 : 2 ≤ lim := by decide
end Lw
namespace Lw.L01
open PySem
noncomputable def f__law_whole : Fn := ⟨["_law_found"], [], [.ret (.bool true [(.isinst (.var 0) .int), (.not (.isinst (.var 0) .bool))])]⟩
noncomputable def f__law_cell_at : Fn := ⟨["_law_script", "_law_k"], [], [.ite (.cmp .lt (.var 1) (.bcall .len [(.var 0)])) [.ret (.idx (.var 0) (.var 1))] [],
  .ret (.cInt 0)]⟩
noncomputable def f__law_ticks : Fn := ⟨["_law_cell", "_law_more"], [], [.ite (.cmp .eq (.bin .mod (.var 1) (.cInt 4)) (.cInt 0)) [.ret (.idx (.list false [.cInt 0, .cInt 1, .cInt 1000000, .cInt 1000001, (.neg (.cInt 1)), (.bin .pow (.cInt 10) (.cInt 9)), (.bin .pow (.cInt 10) (.cInt 30)), (.neg (.bin .pow (.cInt 10) (.cInt 9)))]) (.bin .mod (.var 0) (.cInt 8)))] [],
  .ite (.cmp .eq (.bin .mod (.var 1) (.cInt 4)) (.cInt 1)) [.ret (.bin .mod (.var 0) (.cInt 1000003))] [],
  .ret (.bin .add (.cInt 1) (.bin .mod (.var 0) (.cInt 6)))]⟩
noncomputable def f__law_only : Fn := ⟨["_law_error", "_law_word"], [], [.assign 2 (.list true []),
  .ite (.isinst (.var 0) (.own "BadTicks")) [.expr (.bmeth .append (.var 2) [.cStr "BadTicks"])] [],
  .ite (.isinst (.var 0) (.own "NoLease")) [.expr (.bmeth .append (.var 2) [.cStr "NoLease"])] [],
  .ite (.isinst (.var 0) (.own "NoKey")) [.expr (.bmeth .append (.var 2) [.cStr "NoKey"])] [],
  .ite (.isinst (.var 0) (.own "Held")) [.expr (.bmeth .append (.var 2) [.cStr "Held"])] [],
  .ite (.isinst (.var 0) (.own "NoStart")) [.expr (.bmeth .append (.var 2) [.cStr "NoStart"])] [],
  .ite (.isinst (.var 0) (.own "NoWatch")) [.expr (.bmeth .append (.var 2) [.cStr "NoWatch"])] [],
  .ret (.bool true [(.isinst (.var 0) .valueError), (.cmp .eq (.var 2) (.list false [(.var 1)]))])]⟩
noncomputable def f__law_told : Fn := ⟨["_law_lot", "_law_word", "_law_now", "_law_number"], [], [.tryx [.ite (.cmp .eq (.var 1) (.cStr "grant")) [.ret (.mcall (.var 0) "grant" [(.var 2), (.var 3)] [] [])] [], .ite (.cmp .eq (.var 1) (.cStr "renew")) [.ret (.mcall (.var 0) "renew" [(.var 2), (.var 3)] [] [])] [], .ret (.mcall (.var 0) "drop" [(.var 3)] [] [])] "LeaseError" 4 [.for1 1 (.list false [.cStr "BadTicks", .cStr "NoLease"]) [.ite (.fcall "_law_only" [(.var 4), (.var 1)]) [.ret (.var 1)] []], .ret (.cStr "another refusal")]]⟩
noncomputable def f__law_due : Fn := ⟨["_law_lot", "_law_word", "_law_now", "_law_number"], [], [.ite (.cmp .eq (.var 1) (.cStr "grant")) [.ite (.bool false [(.cmp .lt (.var 3) (.cInt 1)), (.cmp .gt (.var 3) (.cInt 1000000))]) [.ret (.cStr "BadTicks")] [], .expr (.bmeth .append (.idx (.var 0) (.cStr "given")) [(.var 3)]), .setidx (.idx (.var 0) (.cStr "ends")) (.bcall .len [(.idx (.var 0) (.cStr "given"))]) (.bin .add (.var 2) (.var 3)), .ret (.bcall .len [(.idx (.var 0) (.cStr "given"))])] [],
  .ite (.cmp .notin (.var 3) (.idx (.var 0) (.cStr "ends"))) [.ret (.cStr "NoLease")] [],
  .ite (.cmp .eq (.var 1) (.cStr "renew")) [.setidx (.idx (.var 0) (.cStr "ends")) (.var 3) (.bin .add (.var 2) (.idx (.idx (.var 0) (.cStr "given")) (.bin .sub (.var 3) (.cInt 1))))] [.expr (.bmeth .pop (.idx (.var 0) (.cStr "ends")) [(.var 3)])],
  .ret .cNone]⟩
noncomputable def f__law_ending : Fn := ⟨["_law_found", "_law_lot", "_law_until"], [], [.assign 3 (.bcall (.sorted true false) [(.comp false (.tup [(.idx (.idx (.var 1) (.cStr "ends")) (.var 6)), (.var 6)]) 6 (.idx (.var 1) (.cStr "ends")) (.cmp .le (.idx (.idx (.var 1) (.cStr "ends")) (.var 6)) (.var 2)))]),
  .ite (.bool false [(.not (.isinst (.var 0) .list)), (.cmp .ne (.bcall .len [(.var 0)]) (.bcall .len [(.var 3)])), (.cmp .ne (.idx (.var 1) (.cStr "told")) (.list false []))]) [.ret (.cBool false)] [],
  .for1 4 (.var 0) [.ite (.bool false [(.not (.isinst (.var 4) .tuple)), (.cmp .ne (.bcall .len [(.var 4)]) (.cInt 2)), (.not (.fcall "_law_whole" [(.idx (.var 4) (.cInt 0))])), (.not (.fcall "_law_whole" [(.idx (.var 4) (.cInt 1))]))]) [.ret (.cBool false)] []],
  .assign 5 (.cmp .eq (.var 0) (.var 3)),
  .expr (.bmeth .clear (.var 0) []),
  .setidx (.var 1) (.cStr "told") (.var 0),
  .ret (.var 5)]⟩
noncomputable def f_law : Fn := ⟨["_law_script"], [], [.assign 1 (.list false [(.new "Leases" [] [] []), (.new "Leases" [] [] [])]),
  .assign 2 (.list false [(.dict ["given", "ends", "told"] [(.list true []), (.dict0 false), (.list true [])]), (.dict ["given", "ends", "told"] [(.list true []), (.dict0 false), (.list true [])])]),
  .assign 3 (.cInt 0),
  .ite (.cmp .eq (.bin .mod (.bin .fdiv (.fcall "_law_cell_at" [(.var 0), .cInt 0]) (.cInt 6)) (.cInt 3)) (.cInt 0)) [.for1 4 (.bcall .range [.cInt 40]) [.assign 5 (.bin .add (.cInt 1) (.bin .mod (.bin .add (.fcall "_law_cell_at" [(.var 0), .cInt 1]) (.bin .mul (.cInt 7) (.var 4))) (.cInt 50))), .ite (.cmp .ne (.mcall (.idx (.var 1) (.bin .mod (.var 4) (.cInt 2))) "grant" [(.var 3), (.var 5)] [] []) (.fcall "_law_due" [(.idx (.var 2) (.bin .mod (.var 4) (.cInt 2))), .cStr "grant", (.var 3), (.var 5)])) [.ret (.cBool false)] []]] [],
  .for1 4 (.bcall .range [.cInt 0, (.bin .sub (.bcall .len [(.var 0)]) (.cInt 1)), .cInt 2]) [.assign 6 (.idx (.var 0) (.var 4)), .assign 7 (.idx (.var 0) (.bin .add (.var 4) (.cInt 1))), .assign 3 (.bin .add (.var 3) (.idx (.list false [(.bin .mod (.bin .fdiv (.var 6) (.cInt 6)) (.cInt 5)), (.bin .mod (.var 7) (.bin .pow (.cInt 10) (.cInt 12)))]) (.bin .fdiv (.bin .mod (.bin .fdiv (.var 6) (.cInt 30)) (.cInt 9)) (.cInt 8)))), .assign 8 (.bin .mod (.var 6) (.cInt 2)), .assign 9 (.idx (.list false [.cStr "grant", .cStr "renew", .cStr "grant", .cStr "drop", .cStr "renew"]) (.bin .mod (.bin .fdiv (.var 6) (.cInt 2)) (.cInt 5))), .assign 10 (.bin .mod (.var 7) (.bin .add (.bcall .len [(.idx (.idx (.var 2) (.var 8)) (.cStr "given"))]) (.cInt 2))), .ite (.cmp .eq (.bin .mod (.bin .fdiv (.var 6) (.cInt 270)) (.cInt 11)) (.cInt 0)) [.assign 10 (.idx (.list false [(.neg (.cInt 1)), (.neg (.cInt 2)), (.bin .pow (.cInt 10) (.cInt 12))]) (.bin .mod (.var 7) (.cInt 3)))] [], .ite (.cmp .eq (.var 9) (.cStr "grant")) [.assign 10 (.fcall "_law_ticks" [(.var 7), (.bin .fdiv (.var 6) (.cInt 10))])] [], .assign 11 (.fcall "_law_told" [(.idx (.var 1) (.var 8)), (.var 9), (.var 3), (.var 10)]), .assign 12 (.fcall "_law_due" [(.idx (.var 2) (.var 8)), (.var 9), (.var 3), (.var 10)]), .ite (.bool false [(.cmp .ne (.var 11) (.var 12)), (.cmp .ne (.fcall "_law_whole" [(.var 11)]) (.fcall "_law_whole" [(.var 12)]))]) [.ret (.cBool false)] [], .assign 13 (.bin .add (.var 3) (.idx (.list false [(.bin .mod (.var 7) (.cInt 8)), (.bin .mod (.var 7) (.cInt 1000001)), (.bin .pow (.cInt 10) (.cInt 13))]) (.bin .mod (.var 7) (.cInt 3)))), .ite (.not (.fcall "_law_ending" [(.mcall (.idx (.var 1) (.var 8)) "due" [(.var 13)] [] []), (.idx (.var 2) (.var 8)), (.var 13)])) [.ret (.cBool false)] [], .ite (.not (.fcall "_law_ending" [(.mcall (.idx (.var 1) (.bin .sub (.cInt 1) (.var 8))) "due" [(.var 3)] [] []), (.idx (.var 2) (.bin .sub (.cInt 1) (.var 8))), (.var 3)])) [.ret (.cBool false)] []],
  .ret (.bool true [(.fcall "_law_whole" [(.gint "MOST_TICKS" 1000000)]), (.cmp .eq (.gint "MOST_TICKS" 1000000) (.cInt 1000000))])]⟩
noncomputable def f_Leases___init__ : Fn := ⟨["self"], [], [.setattr (.var 0) "given" (.cInt 0),
  .setattr (.var 0) "ends" (.dict0 false),
  .setattr (.var 0) "lengths" (.dict0 false)]⟩
noncomputable def f_Leases_grant : Fn := ⟨["self", "now", "ticks"], [], [.ite (.bool false [(.cmp .lt (.var 2) (.cInt 1)), (.cmp .gt (.var 2) (.gint "MOST_TICKS" 1000000))]) [.raise "BadTicks" "a lease is given for 1 to 1000000 ticks"] [],
  .setattr (.var 0) "given" (.bin .add (.attr (.var 0) "given") (.cInt 1)),
  .setidx (.attr (.var 0) "ends") (.attr (.var 0) "given") (.bin .add (.var 1) (.var 2)),
  .setidx (.attr (.var 0) "lengths") (.attr (.var 0) "given") (.var 2),
  .ret (.attr (.var 0) "given")]⟩
noncomputable def f_Leases_need : Fn := ⟨["self", "lease"], [], [.ite (.cmp .notin (.var 1) (.attr (.var 0) "ends")) [.raise "NoLease" "no such lease runs"] []]⟩
noncomputable def f_Leases_renew : Fn := ⟨["self", "now", "lease"], [], [.expr (.mcall (.var 0) "need" [(.var 2)] [] []),
  .setidx (.attr (.var 0) "ends") (.var 2) (.bin .add (.var 1) (.idx (.attr (.var 0) "lengths") (.var 2)))]⟩
noncomputable def f_Leases_drop : Fn := ⟨["self", "lease"], [], [.expr (.mcall (.var 0) "need" [(.var 1)] [] []),
  .expr (.bmeth .pop (.attr (.var 0) "ends") [(.var 1)]),
  .expr (.bmeth .pop (.attr (.var 0) "lengths") [(.var 1)])]⟩
noncomputable def f_Leases_due : Fn := ⟨["self", "until"], [], [.assign 2 (.list true []),
  .for1 3 (.attr (.var 0) "ends") [.ite (.cmp .le (.idx (.attr (.var 0) "ends") (.var 3)) (.var 1)) [.expr (.bmeth .append (.var 2) [(.tup [(.idx (.attr (.var 0) "ends") (.var 3)), (.var 3)])])] []],
  .ret (.bcall (.sorted true true) [(.var 2)])]⟩
noncomputable def tbl : List Ent := [⟨"", "_law_whole", f__law_whole, [("_law_found", 0)]⟩,
  ⟨"", "_law_cell_at", f__law_cell_at, [("_law_script", 0), ("_law_k", 1)]⟩,
  ⟨"", "_law_ticks", f__law_ticks, [("_law_cell", 0), ("_law_more", 1)]⟩,
  ⟨"", "_law_only", f__law_only, [("_law_error", 0), ("_law_word", 1), ("_law_words", 2)]⟩,
  ⟨"", "_law_told", f__law_told, [("_law_lot", 0), ("_law_word", 1), ("_law_now", 2), ("_law_number", 3), ("_law_error", 4)]⟩,
  ⟨"", "_law_due", f__law_due, [("_law_lot", 0), ("_law_word", 1), ("_law_now", 2), ("_law_number", 3)]⟩,
  ⟨"", "_law_ending", f__law_ending, [("_law_found", 0), ("_law_lot", 1), ("_law_until", 2), ("_law_due_here", 3), ("_law_one", 4), ("_law_good", 5)]⟩,
  ⟨"", "law", f_law, [("_law_script", 0), ("_law_lots", 1), ("_law_mine", 2), ("_law_now", 3), ("_law_k", 4), ("_law_ticks_here", 5), ("_law_kind", 6), ("_law_cell", 7), ("_law_which", 8), ("_law_word", 9), ("_law_number", 10), ("_law_found", 11), ("_law_due_here", 12), ("_law_until", 13)]⟩,
  ⟨"Leases", "__init__", f_Leases___init__, [("self", 0)]⟩,
  ⟨"Leases", "grant", f_Leases_grant, [("self", 0), ("now", 1), ("ticks", 2)]⟩,
  ⟨"Leases", "need", f_Leases_need, [("self", 0), ("lease", 1)]⟩,
  ⟨"Leases", "renew", f_Leases_renew, [("self", 0), ("now", 1), ("lease", 2)]⟩,
  ⟨"Leases", "drop", f_Leases_drop, [("self", 0), ("lease", 1)]⟩,
  ⟨"Leases", "due", f_Leases_due, [("self", 0), ("until", 1), ("found", 2), ("lease", 3)]⟩]
noncomputable def com : Com := ⟨["_law_whole", "_law_cell_at", "_law_ticks", "_law_only", "_law_told", "_law_due", "_law_ending", "law"], ["Leases"], ["LeaseError", "BadTicks", "NoLease", "NoKey", "Held", "NoStart", "NoWatch"], ["ends", "given", "lengths"], ["ValueError", "bool", "int", "isinstance", "len", "list", "range", "sorted", "sorted2", "tuple"], [("MOST_TICKS", 1000000)]⟩
noncomputable def sub (x d : String) : Bool := (x == "LeaseError" && ["LeaseError"].contains d) || (x == "BadTicks" && ["BadTicks", "LeaseError"].contains d) || (x == "NoLease" && ["NoLease", "LeaseError"].contains d) || (x == "NoKey" && ["NoKey", "LeaseError"].contains d) || (x == "Held" && ["Held", "LeaseError"].contains d) || (x == "NoStart" && ["NoStart", "LeaseError"].contains d) || (x == "NoWatch" && ["NoWatch", "LeaseError"].contains d)
noncomputable def P : Prog := progOf tbl sub
end Lw.L01
namespace Lw.L01
open PySem
noncomputable abbrev Mh (n : Nat) : Mc := ⟨P, run P n, false, true⟩
variable {σ : St}
theorem whole_int {n : Nat} {hd : Bool} {i : Int} : run P (n + 1) hd "" "_law_whole" [.int i] [] σ = some (.ok (.bool true), σ) := by kernel_rfl
theorem whole_str {n : Nat} {hd : Bool} {s : Str} : run P (n + 1) hd "" "_law_whole" [.str s] [] σ = some (.ok (.bool false), σ) := by kernel_rfl
theorem whole_none {n : Nat} {hd : Bool} : run P (n + 1) hd "" "_law_whole" [.none] [] σ = some (.ok (.bool false), σ) := by kernel_rfl
theorem cell_at (n : Nat) (ns : List Int) (k : Nat) (hk : k < 1000) : ∃ i : Int, run P (n + 1) false "" "_law_cell_at" [.lst (ns.map .int), .int k] [] σ = some (.ok (.int i), σ) := by
  have hl : Ev (Mh n) (rhoOf [.lst (ns.map .int), .int k]) σ (.cmp .lt (.var 1) (.bcall .len [(.var 0)])) (.bool (decide ((k : Int) < (ns.map V.int).length))) σ := .cmp (.var rfl) (.bcall (.cons (.var rfl) .nil) rfl rfl) rfl
  by_cases h : (k : Int) < (ns.map V.int).length
  · rw [decide_eq_true h] at hl
    have h' : k < ns.length := by rw [List.length_map] at h; omega
    refine ⟨ns[k], call_at rfl rfl rfl (.iteT hl rfl (.ret (.idx (.var rfl) (.var rfl) ?_)))⟩
    show (place k (ns.map V.int).length).bind ((ns.map V.int)[·]?) = _
    rw [place_at (by omega) h (by omega)]
    show (ns.map V.int)[k]? = _
    rw [List.getElem?_map, List.getElem?_eq_getElem h']; rfl
  · rw [decide_eq_false h] at hl
    exact ⟨0, call_at rfl rfl rfl (.iteF hl rfl (.ret .cInt))⟩
theorem drawnI {vs : List V} {c k : Int} (hv : ∀ v ∈ vs, ∃ i : Int, v = .int i) (hk : 0 < k) (hk2 : k < 2 ^ 60) (hm : k ≤ vs.length) : ∃ i : Int, idxV σ (.lst vs) (.int (c % k)) = some (.int i) := by
  obtain ⟨x, hx, e⟩ := drawn (σ := σ) (vs := vs) (c := c) hk hk2 hm
  obtain ⟨i, rfl⟩ := hv x hx
  exact ⟨i, e⟩
theorem pow10 {M : Mc} {ρ : Rho} {k : Int} (h : 0 ≤ k ∧ k ≤ 40) : Ev M ρ σ (.bin .pow (.cInt 10) (.cInt k)) (.int (10 ^ k.toNat)) σ := .bin .cInt .cInt (if_pos ⟨rfl, h⟩)
theorem ticks_at (n : Nat) (c m : Int) : ∃ i : Int, run P (n + 1) false "" "_law_ticks" [.int c, .int m] [] σ = some (.ok (.int i), σ) := by
  have h4 : ∀ k : Int, Ev (Mh n) (rhoOf [.int c, .int m]) σ (.cmp .eq (.bin .mod (.var 1) (.cInt 4)) (.cInt k)) (.bool (m % 4 == k)) σ := fun k => .cmp (.mod (.var rfl) .cInt (by decide)) .cInt rfl
  cases h0 : m % 4 == 0 with
  | true =>
    obtain ⟨i, hi⟩ := drawnI (σ := σ) (vs := [.int 0, .int 1, .int 1000000, .int 1000001, .int (-1), .int (10 ^ 9), .int (10 ^ 30), .int (-10 ^ 9)]) (c := c) (k := 8) (fun v hv => by
      simp only [List.mem_cons, List.not_mem_nil, or_false] at hv
      rcases hv with rfl | rfl | rfl | rfl | rfl | rfl | rfl | rfl <;> exact ⟨_, rfl⟩) (by decide) (by decide) (by decide)
    exact ⟨i, call_at rfl rfl rfl (.iteT (h0 ▸ h4 0) rfl (.ret (.idx (.list (.cons .cInt (.cons .cInt (.cons .cInt (.cons .cInt (.cons (.neg .cInt) (.cons (pow10 (by decide)) (.cons (pow10 (by decide)) (.cons (.neg (pow10 (by decide))) .nil)))))))) (by decide)) (.mod (.var rfl) .cInt (by decide)) hi)))⟩
  | false =>
    cases h1 : m % 4 == 1 with
    | true => exact ⟨_, call_at rfl rfl rfl (.iteF (h0 ▸ h4 0) rfl (.iteT (h1 ▸ h4 1) rfl (.ret (.mod (.var rfl) .cInt (by decide)))))⟩
    | false => exact ⟨_, call_at rfl rfl rfl (.iteF (h0 ▸ h4 0) rfl (.iteF (h1 ▸ h4 1) rfl (.ret (.add .cInt (.mod (.var rfl) .cInt (by decide))))))⟩
noncomputable def onlyTo (σ : St) (c : Str) : St := (σ.new (.list false [])).set σ.n (.list false [.str c])
theorem onlyTo_fr {A : List Nat} {σ : St} {c : Str} : Fr A σ (onlyTo σ c) := Fr.set (Fr.new Fr.refl) (.inr (Nat.le_refl _))
theorem only_eq {c w : Str} : cmpV (onlyTo σ c) .eq (.ref σ.n) (.lst [.str w]) = some (c == w) := by
  have hl : listAt (onlyTo σ c) σ.n = some [.str c] := by unfold listAt onlyTo; rw [get_set_eq]; rfl
  show onO (dataOf (onlyTo σ c) 6 (.ref σ.n)) _ = _
  rw [show dataOf (onlyTo σ c) 6 (.ref σ.n) = some (.list [.str c]) from by show onO (listAt _ _) _ = _; rw [hl]; rfl]
  show some (PyData.eqv (.list [.str c]) (.list [.str w])) = _
  show some ((c == w) && true) = _
  rw [Bool.and_true]
theorem only_bad {n : Nat} {w : Str} : run P (n + 1) true "" "_law_only" [.exc "BadTicks", .str w] [] σ = some (.ok (.bool (Str.ofString "BadTicks" == w)), onlyTo σ "BadTicks") :=
  call_at rfl rfl rfl (.assign (.listM .nil (Nat.zero_le _)) (.iteT (.isinst (.var rfl) rfl) rfl (.expr (.bmeth (.var rfl) (pre_list get_new_eq rfl) (.cons .cStr .nil) rfl (append_at get_new_eq (by decide)))
    (.iteF (.isinst (.var rfl) rfl) rfl (.iteF (.isinst (.var rfl) rfl) rfl (.iteF (.isinst (.var rfl) rfl) rfl (.iteF (.isinst (.var rfl) rfl) rfl (.iteF (.isinst (.var rfl) rfl) rfl (.ret (.boolC (.isinst (.var rfl) rfl) rfl (.bool1 (.cmp (.var rfl) (.list (.cons (.var rfl) .nil) lim1) only_eq))))))))))))
theorem only_lease {n : Nat} {w : Str} : run P (n + 1) true "" "_law_only" [.exc "NoLease", .str w] [] σ = some (.ok (.bool (Str.ofString "NoLease" == w)), onlyTo σ "NoLease") :=
  call_at rfl rfl rfl (.assign (.listM .nil (Nat.zero_le _)) (.iteF (.isinst (.var rfl) rfl) rfl (.iteT (.isinst (.var rfl) rfl) rfl (.expr (.bmeth (.var rfl) (pre_list get_new_eq rfl) (.cons .cStr .nil) rfl (append_at get_new_eq (by decide)))
    (.iteF (.isinst (.var rfl) rfl) rfl (.iteF (.isinst (.var rfl) rfl) rfl (.iteF (.isinst (.var rfl) rfl) rfl (.iteF (.isinst (.var rfl) rfl) rfl (.ret (.boolC (.isinst (.var rfl) rfl) rfl (.bool1 (.cmp (.var rfl) (.list (.cons (.var rfl) .nil) lim1) only_eq))))))))))))
end Lw.L01
namespace Lw.L01
open PySem
structure Lot where
  G : List Int
  E : List (Int × Int)
  Ls : List (Int × Int)
noncomputable abbrev vE (E : List (Int × Int)) : List (Int × V) := vals V.int E
noncomputable abbrev instO (k : Int) (e l : Nat) : O := .inst "Leases" [("given", .int k), ("ends", .ref e), ("lengths", .ref l)]
noncomputable abbrev mineO (g e t : Nat) : O := .ds false [((Str.ofString "given"), .ref g), ((Str.ofString "ends"), .ref e), ((Str.ofString "told"), .ref t)]
noncomputable def objs (L : Lot) (a : Fin 7 → Nat) : Fin 7 → O
  | 0 => instO L.G.length (a 1) (a 2)
  | 1 => .di false (vE L.E)
  | 2 => .di false (vE L.Ls)
  | 3 => mineO (a 4) (a 5) (a 6)
  | 4 => .list false (L.G.map .int)
  | 5 => .di false (vE L.E)
  | 6 => .list false []
structure Lot.Ok (L : Lot) : Prop where
  key : ∀ k v, lk L.E k = some v → ∃ (j : Nat) (x : Int), k = j + 1 ∧ L.G[j]? = some x ∧ lk L.Ls k = some x
  le : L.E.length ≤ L.G.length
  ll : L.Ls.length ≤ L.G.length
structure LotAt (σ : St) (a : Fin 7 → Nat) (L : Lot) : Prop where
  at_ : ∀ i, σ.get (a i) = some (objs L a i)
  inj : ∀ i j, a i = a j → i = j
  lt : ∀ i, a i < σ.n
  ok : L.Ok
theorem LotAt.ne {σ : St} {a : Fin 7 → Nat} {L : Lot} (h : LotAt σ a L) {i j : Fin 7} (hij : i ≠ j) : a i ≠ a j := fun e => hij (h.inj i j e)
structure FrA (a : Fin 7 → Nat) (σ σ' : St) : Prop where
  n : σ.n ≤ σ'.n
  at_ : ∀ j, j < σ.n → (∀ i, j ≠ a i) → σ'.get j = σ.get j
section
variable {a : Fin 7 → Nat} {σ σ₁ σ₂ : St} {L L' : Lot}
theorem FrA.refl : FrA a σ σ := ⟨Nat.le_refl _, fun _ _ _ => rfl⟩
theorem FrA.trans (h : FrA a σ σ₁) (k : FrA a σ₁ σ₂) : FrA a σ σ₂ := ⟨Nat.le_trans h.n k.n, fun j hj ha => (k.at_ j (Nat.lt_of_lt_of_le hj h.n) ha).trans (h.at_ j hj ha)⟩
theorem FrA.set {i : Fin 7} {o : O} (h : FrA a σ σ₁) : FrA a σ (σ₁.set (a i) o) := ⟨h.n, fun j hj ha => (get_set_ne (ha i)).trans (h.at_ j hj ha)⟩
theorem FrA.of {A : List Nat} (h : Fr A σ σ₁) (hA : A = []) : FrA a σ σ₁ := ⟨h.n, fun j hj _ => h.at_ j hj (by rw [hA]; exact fun q => nomatch q)⟩
theorem LotAt.fr (h : LotAt σ a L) (k : Fr [] σ σ₁) : LotAt σ₁ a L := ⟨fun i => (k.at_ _ (h.lt i) (fun q => nomatch q)).trans (h.at_ i), h.inj, fun i => Nat.lt_of_lt_of_le (h.lt i) k.n, h.ok⟩
end
section
variable {a : Fin 7 → Nat} {σ : St} {L : Lot} {now t k : Int} {n : Nat}
theorem refs_lt (h : L.Ok) (hb : L.G.length < 60) : (vE L.E).length < lim ∧ (vE L.Ls).length < lim := by
  have h1 := h.le
  have h2 := h.ll
  rw [len_vals, len_vals]
  unfold lim
  omega
noncomputable def gP (σ : St) (a : Fin 7 → Nat) (L : Lot) (now t : Int) : St := ((σ.set (a 0) (instO (L.G.length + 1) (a 1) (a 2))).set (a 1) (.di false (vE (st L.E (L.G.length + 1) (now + t))))).set (a 2) (.di false (vE (st L.Ls (L.G.length + 1) t)))
theorem grant_run (h : LotAt σ a L) (hb : L.G.length < 60) (h1 : ¬ t < 1) (h2 : ¬ 1000000 < t) : run P (n + 1) false "Leases" "grant" [.ref (a 0), .int now, .int t] [] σ = some (.ok (.int (L.G.length + 1)), gP σ a L now t) := by
  obtain ⟨b1, b2⟩ := refs_lt h.ok hb
  have g0 := h.at_ 0
  have g1 : (σ.set (a 0) (instO (L.G.length + 1) (a 1) (a 2))).get (a 1) = some (.di false (vE L.E)) := (get_set_ne (h.ne (by decide))).trans (h.at_ 1)
  have g2 : ((σ.set (a 0) (instO (L.G.length + 1) (a 1) (a 2))).set (a 1) (.di false (vE (st L.E (L.G.length + 1) (now + t))))).get (a 2) = some (.di false (vE L.Ls)) := (get_set_ne (h.ne (by decide))).trans ((get_set_ne (h.ne (by decide))).trans (h.at_ 2))
  have g0' : (σ.set (a 0) (instO (L.G.length + 1) (a 1) (a 2))).get (a 0) = some (instO (L.G.length + 1) (a 1) (a 2)) := get_set_eq
  have g0'' : ((σ.set (a 0) (instO (L.G.length + 1) (a 1) (a 2))).set (a 1) (.di false (vE (st L.E (L.G.length + 1) (now + t))))).get (a 0) = some (instO (L.G.length + 1) (a 1) (a 2)) := (get_set_ne (h.ne (by decide))).trans get_set_eq
  have g0''' : (gP σ a L now t).get (a 0) = some (instO (L.G.length + 1) (a 1) (a 2)) := (get_set_ne (h.ne (by decide))).trans g0''
  exact call_at rfl rfl rfl (.iteF (.boolC (.cmp (.var rfl) .cInt (congrArg some (decide_eq_false h1))) rfl (.bool1 (.cmp (.var rfl) .gint (congrArg some (decide_eq_false h2))))) rfl
    (.setattr (.add (.attr (.var rfl) (attr_at g0 rfl)) .cInt) (.var rfl) (setattr_at g0 (show (3 : Nat) < 100 by decide))
    (.setidx (.add (.var rfl) (.var rfl)) (.attr (.var rfl) (attr_at g0' rfl)) (.attr (.var rfl) (attr_at g0' rfl)) ((put_di g1 b1).trans (by rw [st_vals]))
    (.setidx (.var rfl) (.attr (.var rfl) (attr_at g0'' rfl)) (.attr (.var rfl) (attr_at g0'' rfl)) ((put_di g2 b2).trans (by rw [st_vals]; rfl))
    (.ret (.attr (.var rfl) (attr_at g0''' rfl)))))))
theorem grant_bad (hh : t < 1 ∨ 1000000 < t) : run P (n + 1) false "Leases" "grant" [.ref k.toNat, .int now, .int t] [] σ = some (.exc "BadTicks", σ) := by
  by_cases h1 : t < 1
  · exact call_atX rfl rfl rfl (.iteT (.boolS (.cmp (.var rfl) .cInt (congrArg some (decide_eq_true h1))) rfl) rfl .raise)
  · exact call_atX rfl rfl rfl (.iteT (.boolC (.cmp (.var rfl) .cInt (congrArg some (decide_eq_false h1))) rfl (.bool1 (.cmp (.var rfl) .gint (congrArg some (decide_eq_true (hh.resolve_left h1)))))) rfl .raise)
theorem need_ok {v : Int} (h : LotAt σ a L) (hv : lk L.E k = some v) : run P (n + 1) false "Leases" "need" [.ref (a 0), .int k] [] σ = some (.ok .none, σ) :=
  call_at0 rfl rfl rfl (.iteF (.cmp (.var rfl) (.attr (.var rfl) (attr_at (h.at_ 0) rfl)) (notin_di (h.at_ 1))) (by rw [lk_vals, hv]; rfl) .nil)
theorem need_no (h : LotAt σ a L) (hv : lk L.E k = none) : run P (n + 1) false "Leases" "need" [.ref (a 0), .int k] [] σ = some (.exc "NoLease", σ) :=
  call_atX rfl rfl rfl (.iteT (.cmp (.var rfl) (.attr (.var rfl) (attr_at (h.at_ 0) rfl)) (notin_di (h.at_ 1))) (by rw [lk_vals, hv]; rfl) .raise)
theorem renew_run {v x : Int} (h : LotAt σ a L) (hb : L.G.length < 60) (hv : lk L.E k = some v) (hx : lk L.Ls k = some x) : run P (n + 2) false "Leases" "renew" [.ref (a 0), .int now, .int k] [] σ = some (.ok .none, σ.set (a 1) (.di false (vE (st L.E k (now + x))))) := by
  obtain ⟨b1, b2⟩ := refs_lt h.ok hb
  exact call_at0 rfl rfl rfl (.expr (.mcall (.var rfl) (meth_at (h.at_ 0) rfl) (.cons (.var rfl) .nil) .nil (need_ok h hv))
    (.setidx (.add (.var rfl) (.idx (.attr (.var rfl) (attr_at (h.at_ 0) rfl)) (.var rfl) (item_di (h.at_ 2) (by rw [lk_vals, hx]; rfl)))) (.attr (.var rfl) (attr_at (h.at_ 0) rfl)) (.var rfl) ((put_di (h.at_ 1) b1).trans (by rw [st_vals])) .nil))
theorem renew_no (h : LotAt σ a L) (hv : lk L.E k = none) : run P (n + 2) false "Leases" "renew" [.ref (a 0), .int now, .int k] [] σ = some (.exc "NoLease", σ) :=
  call_atX rfl rfl rfl (.exprX (.mcall (.var rfl) (meth_at (h.at_ 0) rfl) (.cons (.var rfl) .nil) .nil (need_no h hv)))
theorem drop_run {v x : Int} (h : LotAt σ a L) (hv : lk L.E k = some v) (hx : lk L.Ls k = some x) : run P (n + 2) false "Leases" "drop" [.ref (a 0), .int k] [] σ = some (.ok .none, (σ.set (a 1) (.di false (vE (rm L.E k)))).set (a 2) (.di false (vE (rm L.Ls k)))) := by
  have g0 : (σ.set (a 1) (.di false (vE (rm L.E k)))).get (a 0) = some (instO L.G.length (a 1) (a 2)) := (get_set_ne (h.ne (by decide))).trans (h.at_ 0)
  have g2 : (σ.set (a 1) (.di false (vE (rm L.E k)))).get (a 2) = some (.di false (vE L.Ls)) := (get_set_ne (h.ne (by decide))).trans (h.at_ 2)
  exact call_at0 rfl rfl rfl (.expr (.mcall (.var rfl) (meth_at (h.at_ 0) rfl) (.cons (.var rfl) .nil) .nil (need_ok h hv))
    (.expr (.bmeth (.attr (.var rfl) (attr_at (h.at_ 0) rfl)) (pre_di (h.at_ 1) rfl) (.cons (.var rfl) .nil) rfl ((pop_di (h.at_ 1) (by rw [lk_vals, hv]; rfl)).trans (by rw [rm_vals])))
    (.expr (.bmeth (.attr (.var rfl) (attr_at g0 rfl)) (pre_di g2 rfl) (.cons (.var rfl) .nil) rfl ((pop_di g2 (by rw [lk_vals, hx]; rfl)).trans (by rw [rm_vals]))) .nil)))
theorem drop_no (h : LotAt σ a L) (hv : lk L.E k = none) : run P (n + 2) false "Leases" "drop" [.ref (a 0), .int k] [] σ = some (.exc "NoLease", σ) :=
  call_atX rfl rfl rfl (.exprX (.mcall (.var rfl) (meth_at (h.at_ 0) rfl) (.cons (.var rfl) .nil) .nil (need_no h hv)))
end
end Lw.L01
namespace Lw.L01
open PySem
section
variable {a : Fin 7 → Nat} {σ : St} {L : Lot} {now t k : Int} {n : Nat}
theorem eq_words {s w : Str} {b : Bool} (h : (s == w) = b) : cmpV σ .eq (.str s) (.str w) = some b := congrArg some h
theorem truth_eq {s w : Str} {b : Bool} (h : (s == w) = b) : truthV σ (.bool (s == w)) = some b := congrArg some h
noncomputable abbrev Mt (n : Nat) : Mc := ⟨P, run P n, false, false⟩
noncomputable abbrev Mq (n : Nat) : Mc := ⟨P, run P n, true, false⟩
noncomputable def wordsB : List S := [.ite (.fcall "_law_only" [(.var 4), (.var 1)]) [.ret (.var 1)] []]
theorem words_bad : ∃ ρ', Ex (Mq (n + 1)) [.for1 1 (.list false [.cStr "BadTicks", .cStr "NoLease"]) wordsB, .ret (.cStr "another refusal")] (upd (rhoOf [.ref (a 0), .str "grant", .int now, .int t]) 4 (.exc "BadTicks")) σ (some (.ret (.str "BadTicks"), ρ', onlyTo σ "BadTicks")) :=
  ⟨_, .forRet (.list (.cons .cStr (.cons .cStr .nil)) lim2) (loop_ret (Ex.iteT (M := Mq (n + 1)) (.fcall (.cons (.var rfl) (.cons (.var rfl) .nil)) only_bad) (truth_eq (by decide +kernel)) (.ret (.var rfl))))⟩
theorem words_lease {ρ : Rho} : ∃ ρ', Ex (Mq (n + 1)) [.for1 1 (.list false [.cStr "BadTicks", .cStr "NoLease"]) wordsB, .ret (.cStr "another refusal")] (upd ρ 4 (.exc "NoLease")) σ (some (.ret (.str "NoLease"), ρ', onlyTo (onlyTo σ "NoLease") "NoLease")) := by
  have e1 : execs P (run P (n + 1)) true false wordsB (upd (upd ρ 4 (.exc "NoLease")) 1 (.str "BadTicks")) σ = some (.next, upd (upd ρ 4 (.exc "NoLease")) 1 (.str "BadTicks"), onlyTo σ "NoLease") := Ex.iteF (M := Mq (n + 1)) (.fcall (.cons (.var rfl) (.cons (.var rfl) .nil)) only_lease) (truth_eq (by decide +kernel)) .nil
  have e2 : execs P (run P (n + 1)) true false wordsB (upd (upd (upd ρ 4 (.exc "NoLease")) 1 (.str "BadTicks")) 1 (.str "NoLease")) (onlyTo σ "NoLease") = some (.ret (.str "NoLease"), upd (upd (upd ρ 4 (.exc "NoLease")) 1 (.str "BadTicks")) 1 (.str "NoLease"), onlyTo (onlyTo σ "NoLease") "NoLease") := Ex.iteT (M := Mq (n + 1)) (.fcall (.cons (.var rfl) (.cons (.var rfl) .nil)) only_lease) (truth_eq (by decide +kernel)) (.ret (.var rfl))
  exact ⟨_, .forRet (.list (.cons .cStr (.cons .cStr .nil)) lim2) ((loop_next (f := fun v ρ σ => execs P (run P (n + 1)) true false wordsB (upd ρ 1 v) σ) e1).trans (loop_ret (f := fun v ρ σ => execs P (run P (n + 1)) true false wordsB (upd ρ 1 v) σ) e2))⟩
theorem told_grant (h : LotAt σ a L) (hb : L.G.length < 60) (h1 : ¬ t < 1) (h2 : ¬ 1000000 < t) : run P (n + 3) false "" "_law_told" [.ref (a 0), .str "grant", .int now, .int t] [] σ = some (.ok (.int (L.G.length + 1)), gP σ a L now t) :=
  call_at rfl rfl rfl (.tryOk (.iteT (.cmp (.var rfl) .cStr (eq_words (by decide +kernel))) rfl (.ret (.mcall (.var rfl) (meth_at (h.at_ 0) rfl) (.cons (.var rfl) (.cons (.var rfl) .nil)) .nil (grant_run h hb h1 h2)))))
theorem told_bad (h : LotAt σ a L) (hh : t < 1 ∨ 1000000 < t) : run P (n + 3) false "" "_law_told" [.ref (a 0), .str "grant", .int now, .int t] [] σ = some (.ok (.str "BadTicks"), onlyTo σ "BadTicks") := by
  obtain ⟨ρ', hw⟩ := words_bad (n := n + 1) (a := a) (σ := σ) (now := now) (t := t)
  exact call_at rfl rfl rfl (.tryX (.iteT (.cmp (.var rfl) .cStr (eq_words (by decide +kernel))) rfl (.retX (.mcall (.var rfl) (meth_at (h.at_ 0) rfl) (.cons (.var rfl) (.cons (.var rfl) .nil)) .nil (grant_bad (k := (a 0 : Int)) hh)))) rfl hw)
theorem told_renew {v x : Int} (h : LotAt σ a L) (hb : L.G.length < 60) (hv : lk L.E k = some v) (hx : lk L.Ls k = some x) : run P (n + 3) false "" "_law_told" [.ref (a 0), .str "renew", .int now, .int k] [] σ = some (.ok .none, σ.set (a 1) (.di false (vE (st L.E k (now + x))))) :=
  call_at rfl rfl rfl (.tryOk (.iteF (.cmp (.var rfl) .cStr (eq_words (by decide +kernel))) rfl (.iteT (.cmp (.var rfl) .cStr (eq_words (by decide +kernel))) rfl (.ret (.mcall (.var rfl) (meth_at (h.at_ 0) rfl) (.cons (.var rfl) (.cons (.var rfl) .nil)) .nil (renew_run h hb hv hx))))))
theorem told_renew_no (h : LotAt σ a L) (hv : lk L.E k = none) : run P (n + 3) false "" "_law_told" [.ref (a 0), .str "renew", .int now, .int k] [] σ = some (.ok (.str "NoLease"), onlyTo (onlyTo σ "NoLease") "NoLease") := by
  obtain ⟨ρ', hw⟩ := words_lease (n := n + 1) (σ := σ) (ρ := rhoOf [.ref (a 0), .str "renew", .int now, .int k])
  exact call_at rfl rfl rfl (.tryX (.iteF (.cmp (.var rfl) .cStr (eq_words (by decide +kernel))) rfl (.iteT (.cmp (.var rfl) .cStr (eq_words (by decide +kernel))) rfl (.retX (.mcall (.var rfl) (meth_at (h.at_ 0) rfl) (.cons (.var rfl) (.cons (.var rfl) .nil)) .nil (renew_no h hv))))) rfl hw)
theorem told_drop {v x : Int} (h : LotAt σ a L) (hv : lk L.E k = some v) (hx : lk L.Ls k = some x) : run P (n + 3) false "" "_law_told" [.ref (a 0), .str "drop", .int now, .int k] [] σ = some (.ok .none, (σ.set (a 1) (.di false (vE (rm L.E k)))).set (a 2) (.di false (vE (rm L.Ls k)))) :=
  call_at rfl rfl rfl (.tryOk (.iteF (.cmp (.var rfl) .cStr (eq_words (by decide +kernel))) rfl (.iteF (.cmp (.var rfl) .cStr (eq_words (by decide +kernel))) rfl (.ret (.mcall (.var rfl) (meth_at (h.at_ 0) rfl) (.cons (.var rfl) .nil) .nil (drop_run h hv hx))))))
theorem told_drop_no (h : LotAt σ a L) (hv : lk L.E k = none) : run P (n + 3) false "" "_law_told" [.ref (a 0), .str "drop", .int now, .int k] [] σ = some (.ok (.str "NoLease"), onlyTo (onlyTo σ "NoLease") "NoLease") := by
  obtain ⟨ρ', hw⟩ := words_lease (n := n + 1) (σ := σ) (ρ := rhoOf [.ref (a 0), .str "drop", .int now, .int k])
  exact call_at rfl rfl rfl (.tryX (.iteF (.cmp (.var rfl) .cStr (eq_words (by decide +kernel))) rfl (.iteF (.cmp (.var rfl) .cStr (eq_words (by decide +kernel))) rfl (.retX (.mcall (.var rfl) (meth_at (h.at_ 0) rfl) (.cons (.var rfl) .nil) .nil (drop_no h hv))))) rfl hw)
structure MineAt (S : St) (a : Fin 7 → Nat) (L : Lot) : Prop where
  q : S.get (a 3) = some (objs L a 3)
  g : S.get (a 4) = some (objs L a 4)
  e : S.get (a 5) = some (objs L a 5)
  ne : a 3 ≠ a 4 ∧ a 3 ≠ a 5 ∧ a 4 ≠ a 5
theorem LotAt.mine (h : LotAt σ a L) : MineAt σ a L := ⟨h.at_ 3, h.at_ 4, h.at_ 5, h.ne (by decide), h.ne (by decide), h.ne (by decide)⟩
variable {S : St}
theorem given_ev {M : Mc} {ρ : Rho} (h : MineAt S a L) (h0 : ρ 0 = some (.ref (a 3))) : Ev M ρ S (.idx (.var 0) (.cStr "given")) (.ref (a 4)) S := .idx (.var h0) .cStr (item_ds h.q rfl)
theorem ends_ev {M : Mc} {ρ : Rho} (h : MineAt S a L) (h0 : ρ 0 = some (.ref (a 3))) : Ev M ρ S (.idx (.var 0) (.cStr "ends")) (.ref (a 5)) S := .idx (.var h0) .cStr (item_ds h.q rfl)
theorem due_grant (h : MineAt S a L) (ok : L.Ok) (hb : L.G.length < 60) (h1 : ¬ t < 1) (h2 : ¬ 1000000 < t) : run P (n + 1) false "" "_law_due" [.ref (a 3), .str "grant", .int now, .int t] [] S = some (.ok (.int (L.G.length + 1)), (S.set (a 4) (.list false ((L.G ++ [t]).map .int))).set (a 5) (.di false (vE (st L.E (L.G.length + 1) (now + t))))) := by
  obtain ⟨b1, b2⟩ := refs_lt ok hb
  have eG : (L.G ++ [t]).map V.int = L.G.map .int ++ [.int t] := List.map_append
  have hl : ((L.G ++ [t]).map V.int).length = L.G.length + 1 := by rw [List.length_map, List.length_append]; rfl
  have q1 : (S.set (a 4) (.list false ((L.G ++ [t]).map .int))).get (a 3) = some (objs L a 3) := (get_set_ne h.ne.1).trans h.q
  have g1 : (S.set (a 4) (.list false ((L.G ++ [t]).map .int))).get (a 4) = some (.list false ((L.G ++ [t]).map .int)) := get_set_eq
  have e1 : (S.set (a 4) (.list false ((L.G ++ [t]).map .int))).get (a 5) = some (.di false (vE L.E)) := (get_set_ne h.ne.2.2.symm).trans h.e
  have q2 : ((S.set (a 4) (.list false ((L.G ++ [t]).map .int))).set (a 5) (.di false (vE (st L.E (L.G.length + 1) (now + t))))).get (a 3) = some (objs L a 3) := (get_set_ne h.ne.2.1).trans q1
  have g2 : ((S.set (a 4) (.list false ((L.G ++ [t]).map .int))).set (a 5) (.di false (vE (st L.E (L.G.length + 1) (now + t))))).get (a 4) = some (.list false ((L.G ++ [t]).map .int)) := (get_set_ne h.ne.2.2).trans g1
  have l1 : bfV .len [.ref (a 4)] (S.set (a 4) (.list false ((L.G ++ [t]).map .int))) = some (.ok (.int (L.G.length + 1)), S.set (a 4) (.list false ((L.G ++ [t]).map .int))) := (len_ref g1).trans (by rw [hl]; rfl)
  exact call_at rfl rfl rfl (.iteT (.cmp (.var rfl) .cStr (eq_words (by decide +kernel))) rfl (.iteF (.boolC (.cmp (.var rfl) .cInt (congrArg some (decide_eq_false h1))) rfl (.bool1 (.cmp (.var rfl) .cInt (congrArg some (decide_eq_false h2))))) rfl
    (.expr (.bmeth (given_ev h rfl) (pre_list h.g rfl) (.cons (.var rfl) .nil) rfl ((append_at h.g (by rw [List.length_map]; unfold lim; omega)).trans (by rw [eG])))
    (.setidx (.add (.var rfl) (.var rfl)) (.idx (.var rfl) .cStr (item_ds q1 rfl)) (.bcall (.cons (.idx (.var rfl) .cStr (item_ds q1 rfl)) .nil) rfl l1) ((put_di e1 b1).trans (by rw [st_vals]))
    (.ret (.bcall (.cons (.idx (.var rfl) .cStr (item_ds q2 rfl)) .nil) rfl ((len_ref g2).trans (by rw [hl]; rfl))))))))
theorem due_bad (hh : t < 1 ∨ 1000000 < t) : run P (n + 1) false "" "_law_due" [.ref (a 3), .str "grant", .int now, .int t] [] S = some (.ok (.str "BadTicks"), S) := by
  by_cases h1 : t < 1
  · exact call_at rfl rfl rfl (.iteT (.cmp (.var rfl) .cStr (eq_words (by decide +kernel))) rfl (.iteT (.boolS (.cmp (.var rfl) .cInt (congrArg some (decide_eq_true h1))) rfl) rfl (.ret .cStr)))
  · exact call_at rfl rfl rfl (.iteT (.cmp (.var rfl) .cStr (eq_words (by decide +kernel))) rfl (.iteT (.boolC (.cmp (.var rfl) .cInt (congrArg some (decide_eq_false h1))) rfl (.bool1 (.cmp (.var rfl) .cInt (congrArg some (decide_eq_true (hh.resolve_left h1)))))) rfl (.ret .cStr)))
theorem due_no {w : Str} (h : MineAt S a L) (hw : (w == Str.ofString "grant") = false) (hv : lk L.E k = none) : run P (n + 1) false "" "_law_due" [.ref (a 3), .str w, .int now, .int k] [] S = some (.ok (.str "NoLease"), S) :=
  call_at rfl rfl rfl (.iteF (.cmp (.var rfl) .cStr (eq_words hw)) rfl (.iteT (.cmp (.var rfl) (ends_ev h rfl) (notin_di h.e)) (by rw [lk_vals, hv]; rfl) (.ret .cStr)))
theorem due_renew {j : Nat} {v x : Int} (h : MineAt S a L) (ok : L.Ok) (hb : L.G.length < 60) (hv : lk L.E k = some v) (hk : k = j + 1) (hx : L.G[j]? = some x) : run P (n + 1) false "" "_law_due" [.ref (a 3), .str "renew", .int now, .int k] [] S = some (.ok .none, S.set (a 5) (.di false (vE (st L.E k (now + x))))) := by
  obtain ⟨b1, b2⟩ := refs_lt ok hb
  have hj : j < L.G.length := (List.getElem?_eq_some_iff.mp hx).1
  have hi : idxV S (.ref (a 4)) (.int (k - 1)) = some (.int x) := by
    show (S.get (a 4)).bind _ = _
    rw [h.g]
    show (place (k - 1) (L.G.map V.int).length).bind ((L.G.map V.int)[·]?) = _
    rw [hk, place_at (by omega) (by rw [List.length_map]; omega) (by omega)]
    show (L.G.map V.int)[((j : Int) + 1 - 1).toNat]? = _
    rw [show ((j : Int) + 1 - 1).toNat = j by omega, List.getElem?_map, hx]; rfl
  exact call_at rfl rfl rfl (.iteF (.cmp (.var rfl) .cStr (eq_words (by decide +kernel))) rfl (.iteF (.cmp (.var rfl) (ends_ev h rfl) (notin_di h.e)) (by rw [lk_vals, hv]; rfl) (.iteT (.cmp (.var rfl) .cStr (eq_words (by decide +kernel))) rfl
    (.setidx (.add (.var rfl) (.idx (given_ev h rfl) (.sub (.var rfl) .cInt) hi)) (ends_ev h rfl) (.var rfl) ((put_di h.e b1).trans (by rw [st_vals])) (.ret .cNone)))))
theorem due_drop {v : Int} (h : MineAt S a L) (hv : lk L.E k = some v) : run P (n + 1) false "" "_law_due" [.ref (a 3), .str "drop", .int now, .int k] [] S = some (.ok .none, S.set (a 5) (.di false (vE (rm L.E k)))) :=
  call_at rfl rfl rfl (.iteF (.cmp (.var rfl) .cStr (eq_words (by decide +kernel))) rfl (.iteF (.cmp (.var rfl) (ends_ev h rfl) (notin_di h.e)) (by rw [lk_vals, hv]; rfl) (.iteF (.cmp (.var rfl) .cStr (eq_words (by decide +kernel))) rfl
    (.expr (.bmeth (ends_ev h rfl) (pre_di h.e rfl) (.cons (.var rfl) .nil) rfl ((pop_di h.e (by rw [lk_vals, hv]; rfl)).trans (by rw [rm_vals]))) (.ret .cNone)))))
end
end Lw.L01
namespace Lw.L01
open PySem
noncomputable def Flat (v : V) : Prop := (∃ i : Int, v = .int i) ∨ (∃ s : Str, v = .str s) ∨ v = .none
theorem Flat.eq {v : V} {σ : St} (h : Flat v) : cmpV σ .ne v v = some false := by
  rcases h with ⟨i, rfl⟩ | ⟨s, rfl⟩ | rfl
  · exact ne_self
  · show (some (s == s)).map _ = _
    rw [beq_self_eq_true]; rfl
  · rfl
theorem Flat.whole {v : V} {σ : St} {n : Nat} (h : Flat v) : ∃ b, run P (n + 1) false "" "_law_whole" [v] [] σ = some (.ok (.bool b), σ) := by
  rcases h with ⟨i, rfl⟩ | ⟨s, rfl⟩ | rfl
  · exact ⟨_, whole_int⟩
  · exact ⟨_, whole_str⟩
  · exact ⟨_, whole_none⟩
section
variable {a : Fin 7 → Nat} {σ : St} {L : Lot} {now t k : Int} {n : Nat}
noncomputable def Both (n : Nat) (σ : St) (a : Fin 7 → Nat) (L : Lot) (w : Str) (now k : Int) : Prop :=
  ∃ (v : V) (σ₁ σ₂ : St) (L' : Lot), Flat v ∧ run P (n + 3) false "" "_law_told" [.ref (a 0), .str w, .int now, .int k] [] σ = some (.ok v, σ₁) ∧ run P (n + 3) false "" "_law_due" [.ref (a 3), .str w, .int now, .int k] [] σ₁ = some (.ok v, σ₂) ∧
    LotAt σ₂ a L' ∧ FrA a σ σ₂ ∧ L'.G.length ≤ L.G.length + 1
noncomputable def gL (L : Lot) (now t : Int) : Lot := ⟨L.G ++ [t], st L.E (L.G.length + 1) (now + t), st L.Ls (L.G.length + 1) t⟩
theorem gL_ok (h : L.Ok) : (gL L now t).Ok := by
  refine ⟨fun k v hk => ?_, ?_, ?_⟩
  · have hk : lk (st L.E (L.G.length + 1) (now + t)) k = some v := hk
    show ∃ (j : Nat) (x : Int), k = j + 1 ∧ (L.G ++ [t])[j]? = some x ∧ lk (st L.Ls (L.G.length + 1) t) k = some x
    rw [lk_st] at hk ⊢
    by_cases e : k = L.G.length + 1
    · rw [if_pos e]
      exact ⟨L.G.length, t, e, by rw [List.getElem?_append_right (Nat.le_refl _), Nat.sub_self]; rfl, rfl⟩
    · rw [if_neg e] at hk ⊢
      obtain ⟨j, x, e1, e2, e3⟩ := h.key k v hk
      exact ⟨j, x, e1, by rw [List.getElem?_append_left (List.getElem?_eq_some_iff.mp e2).1]; exact e2, e3⟩
  · exact Nat.le_trans st_len (by show _ ≤ (L.G ++ [t]).length; rw [List.length_append]; exact Nat.succ_le_succ h.le)
  · exact Nat.le_trans st_len (by show _ ≤ (L.G ++ [t]).length; rw [List.length_append]; exact Nat.succ_le_succ h.ll)
theorem gL_at (h : LotAt σ a L) (hb : L.G.length < 60) : LotAt (((gP σ a L now t).set (a 4) (.list false ((L.G ++ [t]).map .int))).set (a 5) (.di false (vE (st L.E (L.G.length + 1) (now + t))))) a (gL L now t) := by
  have hl : ((gL L now t).G.length : Int) = L.G.length + 1 := by show (((L.G ++ [t]).length : Nat) : Int) = _; rw [List.length_append]; rfl
  refine ⟨fun i => ?_, h.inj, h.lt, gL_ok h.ok⟩
  have ne : ∀ {i j : Fin 7}, i ≠ j → a i ≠ a j := fun q => h.ne q
  match i with
  | 0 => exact (get_set_ne (ne (by decide))).trans ((get_set_ne (ne (by decide))).trans ((get_set_ne (ne (by decide))).trans ((get_set_ne (ne (by decide))).trans (get_set_eq.trans (by show _ = some (instO ((gL L now t).G.length) (a 1) (a 2)); rw [hl])))))
  | 1 => exact (get_set_ne (ne (by decide))).trans ((get_set_ne (ne (by decide))).trans ((get_set_ne (ne (by decide))).trans get_set_eq))
  | 2 => exact (get_set_ne (ne (by decide))).trans ((get_set_ne (ne (by decide))).trans get_set_eq)
  | 3 => exact (get_set_ne (ne (by decide))).trans ((get_set_ne (ne (by decide))).trans ((get_set_ne (ne (by decide))).trans ((get_set_ne (ne (by decide))).trans ((get_set_ne (ne (by decide))).trans (h.at_ 3)))))
  | 4 => exact (get_set_ne (ne (by decide))).trans get_set_eq
  | 5 => exact get_set_eq
  | 6 => exact (get_set_ne (ne (by decide))).trans ((get_set_ne (ne (by decide))).trans ((get_set_ne (ne (by decide))).trans ((get_set_ne (ne (by decide))).trans ((get_set_ne (ne (by decide))).trans (h.at_ 6)))))
theorem gP_mine (h : LotAt σ a L) : MineAt (gP σ a L now t) a L := by
  have ne : ∀ {i j : Fin 7}, i ≠ j → a i ≠ a j := fun q => h.ne q
  exact ⟨(get_set_ne (ne (by decide))).trans ((get_set_ne (ne (by decide))).trans ((get_set_ne (ne (by decide))).trans (h.at_ 3))), (get_set_ne (ne (by decide))).trans ((get_set_ne (ne (by decide))).trans ((get_set_ne (ne (by decide))).trans (h.at_ 4))),
    (get_set_ne (ne (by decide))).trans ((get_set_ne (ne (by decide))).trans ((get_set_ne (ne (by decide))).trans (h.at_ 5))), ne (by decide), ne (by decide), ne (by decide)⟩
theorem both_grant (h : LotAt σ a L) (hb : L.G.length < 60) : Both n σ a L "grant" now t := by
  by_cases hh : t < 1 ∨ 1000000 < t
  · exact ⟨_, _, _, L, .inr (.inl ⟨_, rfl⟩), told_bad h hh, due_bad hh, h.fr onlyTo_fr, FrA.of onlyTo_fr rfl, Nat.le_succ _⟩
  · have h1 : ¬ t < 1 := fun q => hh (.inl q)
    have h2 : ¬ 1000000 < t := fun q => hh (.inr q)
    exact ⟨_, _, _, gL L now t, .inl ⟨_, rfl⟩, told_grant h hb h1 h2, due_grant (gP_mine h) h.ok hb h1 h2, gL_at h hb, FrA.set (FrA.set (FrA.set (FrA.set (FrA.set FrA.refl)))), by show (L.G ++ [t]).length ≤ _; rw [List.length_append]; exact Nat.le_refl _⟩
theorem fr2 {c : Str} : Fr [] σ (onlyTo (onlyTo σ c) c) := onlyTo_fr.trans onlyTo_fr
theorem both_renew (h : LotAt σ a L) (hb : L.G.length < 60) : Both n σ a L "renew" now k := by
  cases hv : lk L.E k with
  | none => exact ⟨_, _, _, L, .inr (.inl ⟨_, rfl⟩), told_renew_no h hv, due_no (h.fr fr2).mine (by decide +kernel) hv, h.fr fr2, FrA.of fr2 rfl, Nat.le_succ _⟩
  | some v =>
    obtain ⟨j, x, e1, e2, e3⟩ := h.ok.key k v hv
    have ne : ∀ {i j : Fin 7}, i ≠ j → a i ≠ a j := fun q => h.ne q
    have hM : MineAt (σ.set (a 1) (.di false (vE (st L.E k (now + x))))) a L := ⟨(get_set_ne (ne (by decide))).trans (h.at_ 3), (get_set_ne (ne (by decide))).trans (h.at_ 4), (get_set_ne (ne (by decide))).trans (h.at_ 5), ne (by decide), ne (by decide), ne (by decide)⟩
    refine ⟨_, _, _, ⟨L.G, st L.E k (now + x), L.Ls⟩, .inr (.inr rfl), told_renew h hb hv e3, due_renew hM h.ok hb hv e1 e2, ⟨fun i => ?_, h.inj, h.lt, fun k' v' hk => ?_, ?_, h.ok.ll⟩, FrA.set (FrA.set FrA.refl), Nat.le_succ _⟩
    · match i with
      | 0 => exact (get_set_ne (ne (by decide))).trans ((get_set_ne (ne (by decide))).trans (h.at_ 0))
      | 1 => exact (get_set_ne (ne (by decide))).trans get_set_eq
      | 2 => exact (get_set_ne (ne (by decide))).trans ((get_set_ne (ne (by decide))).trans (h.at_ 2))
      | 3 => exact (get_set_ne (ne (by decide))).trans ((get_set_ne (ne (by decide))).trans (h.at_ 3))
      | 4 => exact (get_set_ne (ne (by decide))).trans ((get_set_ne (ne (by decide))).trans (h.at_ 4))
      | 5 => exact get_set_eq
      | 6 => exact (get_set_ne (ne (by decide))).trans ((get_set_ne (ne (by decide))).trans (h.at_ 6))
    · have hk : lk (st L.E k (now + x)) k' = some v' := hk
      rw [lk_st] at hk
      by_cases e : k' = k
      · subst e; exact h.ok.key k' v hv
      · rw [if_neg e] at hk; exact h.ok.key k' v' hk
    · show (st L.E k (now + x)).length ≤ L.G.length
      have : (L.E.any fun kv => decide (kv.1 = k)) = true := by
        cases q : L.E.any fun kv => decide (kv.1 = k) with
        | true => rfl
        | false => rw [lk_none (by rw [q]; decide)] at hv; cases hv
      unfold st
      rw [if_pos this, List.length_map]
      exact h.ok.le
theorem both_drop (h : LotAt σ a L) : Both n σ a L "drop" now k := by
  cases hv : lk L.E k with
  | none => exact ⟨_, _, _, L, .inr (.inl ⟨_, rfl⟩), told_drop_no h hv, due_no (h.fr fr2).mine (by decide +kernel) hv, h.fr fr2, FrA.of fr2 rfl, Nat.le_succ _⟩
  | some v =>
    obtain ⟨j, x, e1, e2, e3⟩ := h.ok.key k v hv
    have ne : ∀ {i j : Fin 7}, i ≠ j → a i ≠ a j := fun q => h.ne q
    have hM : MineAt ((σ.set (a 1) (.di false (vE (rm L.E k)))).set (a 2) (.di false (vE (rm L.Ls k)))) a L := ⟨(get_set_ne (ne (by decide))).trans ((get_set_ne (ne (by decide))).trans (h.at_ 3)), (get_set_ne (ne (by decide))).trans ((get_set_ne (ne (by decide))).trans (h.at_ 4)), (get_set_ne (ne (by decide))).trans ((get_set_ne (ne (by decide))).trans (h.at_ 5)), ne (by decide), ne (by decide), ne (by decide)⟩
    refine ⟨_, _, _, ⟨L.G, rm L.E k, rm L.Ls k⟩, .inr (.inr rfl), told_drop h hv e3, due_drop hM hv, ⟨fun i => ?_, h.inj, h.lt, fun k' v' hk => ?_, Nat.le_trans rm_len h.ok.le, Nat.le_trans rm_len h.ok.ll⟩, FrA.set (FrA.set (FrA.set FrA.refl)), Nat.le_succ _⟩
    · match i with
      | 0 => exact (get_set_ne (ne (by decide))).trans ((get_set_ne (ne (by decide))).trans ((get_set_ne (ne (by decide))).trans (h.at_ 0)))
      | 1 => exact (get_set_ne (ne (by decide))).trans ((get_set_ne (ne (by decide))).trans get_set_eq)
      | 2 => exact (get_set_ne (ne (by decide))).trans get_set_eq
      | 3 => exact (get_set_ne (ne (by decide))).trans ((get_set_ne (ne (by decide))).trans ((get_set_ne (ne (by decide))).trans (h.at_ 3)))
      | 4 => exact (get_set_ne (ne (by decide))).trans ((get_set_ne (ne (by decide))).trans ((get_set_ne (ne (by decide))).trans (h.at_ 4)))
      | 5 => exact get_set_eq
      | 6 => exact (get_set_ne (ne (by decide))).trans ((get_set_ne (ne (by decide))).trans ((get_set_ne (ne (by decide))).trans (h.at_ 6)))
    · have hk : lk (rm L.E k) k' = some v' := hk
      show ∃ (j : Nat) (x : Int), k' = j + 1 ∧ L.G[j]? = some x ∧ lk (rm L.Ls k) k' = some x
      rw [lk_rm] at hk ⊢
      by_cases e : k' = k
      · rw [if_pos e] at hk; cases hk
      · rw [if_neg e] at hk ⊢; exact h.ok.key k' v' hk
end
end Lw.L01
namespace Lw.L01
open PySem
noncomputable def endAt (E : List (Int × Int)) (k : Int) : Int := (lk E k).getD 0
noncomputable def dueP (E : List (Int × Int)) (u k : Int) : Bool := decide (endAt E k ≤ u)
noncomputable def dueOf (E : List (Int × Int)) (u : Int) : List (Int × Int) := ((E.map (·.1)).filter (dueP E u)).map fun k => (endAt E k, k)
theorem dueOf_len {E : List (Int × Int)} {u : Int} : (dueOf E u).length ≤ E.length := by
  unfold dueOf
  rw [List.length_map]
  exact Nat.le_trans (List.length_filter_le ..) (by rw [List.length_map]; exact Nat.le_refl _)
noncomputable def stepD (E : List (Int × Int)) (u : Int) (acc : List (Int × Int)) : V → List (Int × Int)
  | .int k => if dueP E u k then acc ++ [(endAt E k, k)] else acc
  | _ => acc
theorem stepD_all {E : List (Int × Int)} {u : Int} : ∀ (ks : List Int) (acc : List (Int × Int)), (ks.map V.int).foldl (stepD E u) acc = acc ++ (ks.filter (dueP E u)).map fun k => (endAt E k, k)
  | [], acc => (List.append_nil _).symm
  | k :: ks, acc => by
    show (ks.map V.int).foldl (stepD E u) (if dueP E u k then acc ++ [(endAt E k, k)] else acc) = _
    rw [stepD_all ks]
    cases h : dueP E u k with
    | true => rw [if_pos rfl, List.filter_cons_of_pos h, List.append_assoc]; rfl
    | false => rw [if_neg Bool.false_ne_true, List.filter_cons_of_neg (by rw [h]; decide)]
theorem asPairs_of : ∀ (ps : List (Int × Int)), asPairs (ps.map pairV) = some ps
  | [] => rfl
  | _ :: ps => (oO rfl).trans (oO (asPairs_of ps))
noncomputable def dueB : List S := [.ite (.cmp .le (.idx (.attr (.var 0) "ends") (.var 3)) (.var 1)) [.expr (.bmeth .append (.var 2) [(.tup [(.idx (.attr (.var 0) "ends") (.var 3)), (.var 3)])])] []]
section
variable {a : Fin 7 → Nat} {σ S : St} {L : Lot} {u k : Int} {n r : Nat}
theorem sortedM_at {ps : List (Int × Int)} (h : S.get r = some (.list false (ps.map pairV))) (hl : ps.length < 64) : bfV (.sorted true true) [.ref r] S = some (.ok (.ref S.n), S.new (.list false ((sortP ps).map pairV))) := by
  show onO (listAt S r) _ = _
  rw [listAt_of h]
  show onO (sortV true (ps.map pairV)) _ = _
  unfold sortV
  rw [if_pos (by rw [List.length_map]; exact hl)]
  show onO ((asPairs _).map _) _ = _
  rw [asPairs_of]; rfl
theorem sortedF_at {ps : List (Int × Int)} (hl : ps.length < 64) : bfV (.sorted true false) [.lst (ps.map pairV)] S = some (.ok (.lst ((sortP ps).map pairV)), S) := by
  show onO (sortV true (ps.map pairV)) _ = _
  unfold sortV
  rw [if_pos (by rw [List.length_map]; exact hl)]
  show onO ((asPairs _).map _) _ = _
  rw [asPairs_of]; rfl
theorem endAt_lk {k : Int} (h : k ∈ L.E.map (·.1)) : lk (vE L.E) k = some (.int (endAt L.E k)) := by
  obtain ⟨v, hv⟩ := lk_key h
  unfold endAt
  rw [lk_vals, hv]; rfl
theorem keys_int : ((vE L.E).map fun kv => V.int kv.1) = (L.E.map (·.1)).map V.int := by unfold vE vals; rw [List.map_map, List.map_map]; rfl
theorem due_run (h : LotAt σ a L) (hb : L.G.length < 60) : ∃ r S, run P (n + 1) false "Leases" "due" [.ref (a 0), .int u] [] σ = some (.ok (.ref r), S) ∧ σ.n ≤ r ∧ r < S.n ∧ S.get r = some (.list false ((sortP (dueOf L.E u)).map pairV)) ∧ Fr [] σ S := by
  have hEl : L.E.length < 60 := Nat.lt_of_le_of_lt h.ok.le hb
  have n1 : ∀ i, a i ≠ σ.n := fun i => Nat.ne_of_lt (h.lt i)
  have g : ∀ i, (σ.new (.list false [])).get (a i) = some (objs L a i) := fun i => (get_new_lt (h.lt i)).trans (h.at_ i)
  obtain ⟨ρ', S, e, i0, i1, i2, i3, i4, i5⟩ := loop_fold (f := fun v ρ σ => execs P (run P n) false true dueB (upd ρ 3 v) σ) (stepD L.E u) (fun m acc ρ S => ρ 0 = some (.ref (a 0)) ∧ ρ 1 = some (.int u) ∧ ρ 2 = some (.ref σ.n) ∧ S.get σ.n = some (.list false (acc.map pairV)) ∧ (acc.length + m < 60 ∧ S.n = σ.n + 1) ∧ ∀ j, j ≠ σ.n → S.get j = (lockV (σ.new (.list false [])) (.ref (a 1))).get j)
    ((vE L.E).map fun kv => V.int kv.1) [] (upd (rhoOf [.ref (a 0), .int u]) 2 (.ref σ.n)) (lockV (σ.new (.list false [])) (.ref (a 1))) ⟨rfl, rfl, rfl, by rw [lock_di (g 1), get_set_ne (n1 1).symm]; exact get_new_eq, ⟨by show 0 + _ < 60; rw [List.length_map, len_vals]; omega, by rw [lock_di (g 1)]; rfl⟩, fun _ _ => rfl⟩ fun v hv m acc ρ S ⟨i0, i1, i2, i3, i4, i5⟩ => by
    rw [keys_int] at hv
    obtain ⟨k, hk, rfl⟩ := List.mem_map.mp hv
    have s0 : S.get (a 0) = some (instO L.G.length (a 1) (a 2)) := by rw [i5 _ (n1 0), lock_di (g 1), get_set_ne (h.ne (by decide))]; exact g 0
    have s1 : S.get (a 1) = some (.di true (vE L.E)) := by rw [i5 _ (n1 1), lock_di (g 1)]; exact get_set_eq
    have eA : ∀ {ρ : Rho}, ρ 0 = some (.ref (a 0)) → Ev (Mh n) ρ S (.attr (.var 0) "ends") (.ref (a 1)) S := fun q => .attr (.var q) (attr_at s0 rfl)
    have hc : Ev (Mh n) (upd ρ 3 (.int k)) S (.cmp .le (.idx (.attr (.var 0) "ends") (.var 3)) (.var 1)) (.bool (dueP L.E u k)) S := .cmp (.idx (eA i0) (.var rfl) (item_di s1 (endAt_lk hk))) (.var i1) rfl
    cases hp : dueP L.E u k with
    | true =>
      rw [hp] at hc
      have es : stepD L.E u acc (.int k) = acc ++ [(endAt L.E k, k)] := if_pos hp
      rw [es]
      have hap : bmV .append (.ref σ.n) [.tup [.int (endAt L.E k), .int k]] S = some (.ok .none, S.set σ.n (.list false ((acc ++ [(endAt L.E k, k)]).map pairV))) := (append_at i3 (by rw [List.length_map]; unfold lim; omega)).trans (by rw [List.map_append]; rfl)
      refine ⟨upd ρ 3 (.int k), S.set σ.n (.list false ((acc ++ [(endAt L.E k, k)]).map pairV)), Ex.iteT (M := Mh n) hc rfl (.expr (.bmeth (.var i2) (pre_list i3 rfl) (.cons (.tup (.cons (.idx (eA i0) (.var rfl) (item_di s1 (endAt_lk hk))) (.cons (.var rfl) .nil)) lim2) .nil) rfl hap) .nil), i0, i1, i2, get_set_eq, ⟨by rw [List.length_append]; show acc.length + 1 + m < 60; omega, i4.2⟩, fun j hj => (get_set_ne hj).trans (i5 j hj)⟩
    | false =>
      rw [hp] at hc
      have es : stepD L.E u acc (.int k) = acc := if_neg (by rw [hp]; decide)
      rw [es]
      exact ⟨upd ρ 3 (.int k), S, Ex.iteF (M := Mh n) hc rfl .nil, i0, i1, i2, i3, ⟨by omega, i4.2⟩, i5⟩
  rw [keys_int, stepD_all, List.nil_append] at i3
  have e6 : unlockV (σ.new (.list false [])) (.ref (a 1)) S = S.set (a 1) (.di false (vE L.E)) := unlock_di (g 1)
  have g6 : (S.set (a 1) (.di false (vE L.E))).get σ.n = some (.list false ((dueOf L.E u).map pairV)) := (get_set_ne (n1 1).symm).trans i3
  refine ⟨_, _, call_at rfl rfl rfl (.assign (.listM .nil (Nat.zero_le _)) (.for1 rfl (.attr (.var rfl) (attr_at (g 0) rfl)) (items_di (g 1)) e (.ret (.bcall (.cons (.var i2) .nil) rfl (by rw [e6]; exact sortedM_at g6 (Nat.lt_of_le_of_lt dueOf_len (by omega))))))), ?_, Nat.lt_succ_self _, get_new_eq, ?_⟩
  · show σ.n ≤ S.n; omega
  · refine ⟨by show σ.n ≤ S.n + 1; omega, fun j hj _ => ?_⟩
    refine (get_new_lt (σ := S.set (a 1) (.di false (vE L.E))) (show j < S.n by omega)).trans ?_
    by_cases q : j = a 1
    · rw [q]; exact get_set_eq.trans (h.at_ 1).symm
    · rw [get_set_ne q, i5 j (Nat.ne_of_lt hj), lock_di (g 1), get_set_ne q]; exact get_new_lt hj
end
end Lw.L01
namespace Lw.L01
open PySem
theorem lim0 : 0 ≤ lim := Nat.zero_le _
noncomputable def endB : List S := [.ite (.bool false [(.not (.isinst (.var 4) .tuple)), (.cmp .ne (.bcall .len [(.var 4)]) (.cInt 2)), (.not (.fcall "_law_whole" [(.idx (.var 4) (.cInt 0))])), (.not (.fcall "_law_whole" [(.idx (.var 4) (.cInt 1))]))]) [.ret (.cBool false)] []]
section
variable {a : Fin 7 → Nat} {σ S : St} {L : Lot} {u : Int} {n r : Nat}
theorem comp_ev {ρ : Rho} (h : MineAt S a L) (h1 : ρ 1 = some (.ref (a 3))) (h2 : ρ 2 = some (.int u)) (hb : L.E.length < 60) :
    Ev (Mh n) ρ S (.bcall (.sorted true false) [(.comp false (.tup [(.idx (.idx (.var 1) (.cStr "ends")) (.var 6)), (.var 6)]) 6 (.idx (.var 1) (.cStr "ends")) (.cmp .le (.idx (.idx (.var 1) (.cStr "ends")) (.var 6)) (.var 2)))]) (.lst ((sortP (dueOf L.E u)).map pairV)) S := by
  have lq : (lockV S (.ref (a 5))).get (a 3) = some (objs L a 3) := by rw [lock_di h.e, get_set_ne h.ne.2.1]; exact h.q
  have le : (lockV S (.ref (a 5))).get (a 5) = some (.di true (vE L.E)) := by rw [lock_di h.e]; exact get_set_eq
  have eI : ∀ {ρ : Rho}, ρ 1 = some (.ref (a 3)) → Ev (Mh n) ρ (lockV S (.ref (a 5))) (.idx (.var 1) (.cStr "ends")) (.ref (a 5)) (lockV S (.ref (a 5))) := fun q => .idx (.var q) .cStr (item_ds lq rfl)
  have key := Ev.compF (M := Mh n) (ρ := ρ) (σ := S) (k := 6) (a := .idx (.var 1) (.cStr "ends")) (b := .tup [(.idx (.idx (.var 1) (.cStr "ends")) (.var 6)), (.var 6)]) (d := .cmp .le (.idx (.idx (.var 1) (.cStr "ends")) (.var 6)) (.var 2))
    (f := fun y => match y with | .int k => pairV (endAt L.E k, k) | _ => .none) (p := fun y => match y with | .int k => dueP L.E u k | _ => false) rfl (.idx (.var h1) .cStr (item_ds h.q rfl)) (items_di h.e) (relock_di h.e)
    (fun y hy => by
      rw [keys_int] at hy
      obtain ⟨k, hk, rfl⟩ := List.mem_map.mp hy
      exact .cmp (.idx (eI h1) (.var rfl) (item_di le (endAt_lk hk))) (.var h2) rfl)
    (fun y hy _ => by
      rw [keys_int] at hy
      obtain ⟨k, hk, rfl⟩ := List.mem_map.mp hy
      exact .tup (.cons (.idx (eI h1) (.var rfl) (item_di le (endAt_lk hk))) (.cons (.var rfl) .nil)) lim2)
  have e : ((((vE L.E).map fun kv => V.int kv.1).filter fun y => match y with | .int k => dueP L.E u k | _ => false).map fun y => match y with | .int k => pairV (endAt L.E k, k) | _ => V.none) = (dueOf L.E u).map pairV := by
    rw [keys_int, List.filter_map, List.map_map, dueOf, List.map_map]; rfl
  rw [e] at key
  exact .bcall (.cons key .nil) rfl (sortedF_at (Nat.lt_of_le_of_lt dueOf_len (by omega)))
theorem pairs_data {ps : List (Int × Int)} : ∀ v ∈ ps.map pairV, ∃ d, dataOf S 5 v = some d := fun v hv => by
  obtain ⟨p, _, rfl⟩ := List.mem_map.mp hv; exact ⟨_, rfl⟩
theorem end_run (h : MineAt S a L) (ht : S.get (a 6) = some (.list false [])) (hb : L.E.length < 60) (hr : S.get r = some (.list false ((sortP (dueOf L.E u)).map pairV))) :
    run P (n + 2) false "" "_law_ending" [.ref r, .ref (a 3), .int u] [] S = some (.ok (.bool true), (S.set r (.list false [])).set (a 3) (mineO (a 4) (a 5) r)) := by
  have hs : seqOf S (.ref r) = some ((sortP (dueOf L.E u)).map pairV) := listAt_of hr
  have hq : a 3 ≠ r := fun e => by rw [← e, h.q] at hr; cases hr
  have c1 : ∀ {ρ : Rho}, ρ 0 = some (.ref r) → ρ 1 = some (.ref (a 3)) → ρ 3 = some (.lst ((sortP (dueOf L.E u)).map pairV)) → Ev (Mh (n + 1)) ρ S (.bool false [(.not (.isinst (.var 0) .list)), (.cmp .ne (.bcall .len [(.var 0)]) (.bcall .len [(.var 3)])), (.cmp .ne (.idx (.var 1) (.cStr "told")) (.list false []))]) (.bool false) S := fun h0 h1 h3 =>
    .boolC (.not (.isinst (.var h0) (inst_list _ hs)) rfl) rfl (.boolC (.cmp (.bcall (.cons (.var h0) .nil) rfl (len_ref hr)) (.bcall (.cons (.var h3) .nil) rfl rfl) ne_self) rfl (.bool1 (.cmp (.idx (.var h1) .cStr (item_ds h.q rfl)) (.list .nil lim0) (cmp_ne (b := true) (eq_empty (σ := S) (x := .ref (a 6)) (vs := []) (listAt_of ht) (fun _ q => nomatch q))))))
  obtain ⟨ρ', σ', e, i0, i1, i3, rfl⟩ := loop_inv (f := fun v ρ σ => execs P (run P (n + 1)) false true endB (upd ρ 4 v) σ) (fun _ ρ σ' => ρ 0 = some (.ref r) ∧ ρ 1 = some (.ref (a 3)) ∧ ρ 3 = some (.lst ((sortP (dueOf L.E u)).map pairV)) ∧ lockV S (.ref r) = σ')
    ((sortP (dueOf L.E u)).map pairV) 0 (upd (rhoOf [.ref r, .ref (a 3), .int u]) 3 (.lst ((sortP (dueOf L.E u)).map pairV))) (lockV S (.ref r)) ⟨rfl, rfl, rfl, rfl⟩ fun i v ρ σ' hv ⟨h0, h1, h3, h4⟩ => by
    obtain ⟨p, _, rfl⟩ := List.mem_map.mp (List.mem_of_getElem? hv)
    exact ⟨upd ρ 4 (pairV p), σ', Ex.iteF (M := Mh (n + 1)) (.boolC (.not (.isinst (.var rfl) rfl) rfl) rfl (.boolC (.cmp (.bcall (.cons (.var rfl) .nil) rfl rfl) .cInt rfl) rfl (.boolC (.not (.fcall (.cons (.idx (.var rfl) .cInt rfl) .nil) (whole_int (n := n) (hd := false) (i := p.1))) rfl) rfl (.bool1 (.not (.fcall (.cons (.idx (.var rfl) .cInt rfl) .nil) (whole_int (n := n) (hd := false) (i := p.2))) rfl))))) rfl .nil, h0, h1, h3, h4⟩
  exact call_at rfl rfl rfl (.assign (comp_ev h rfl rfl hb) (.iteF (c1 rfl rfl rfl) rfl (.forP rfl (.var rfl) (items_ref hr) e (relock hr)
    (.assign (.cmp (.var i0) (.var i3) (eq_seq hs rfl pairs_data)) (.expr (.bmeth (.var i0) (pre_list hr rfl) .nil rfl (clear_at hr))
    (.setidx (.var i0) (.var i1) .cStr (put_ds (D := [((Str.ofString "given"), .ref (a 4)), ((Str.ofString "ends"), .ref (a 5)), ((Str.ofString "told"), .ref (a 6))]) ((get_set_ne hq).trans h.q) (show (3 : Nat) < lim by decide)) (.ret (.var rfl))))))))
theorem both_due (h : LotAt σ a L) (hb : L.G.length < 60) : ∃ (r : Nat) (σ₁ σ₂ : St) (a' : Fin 7 → Nat), run P (n + 3) false "Leases" "due" [.ref (a 0), .int u] [] σ = some (.ok (.ref r), σ₁) ∧ run P (n + 3) false "" "_law_ending" [.ref r, .ref (a 3), .int u] [] σ₁ = some (.ok (.bool true), σ₂) ∧
    LotAt σ₂ a' L ∧ FrA a σ σ₂ ∧ (∀ i, a' i = a i ∨ σ.n ≤ a' i) ∧ a' 0 = a 0 ∧ a' 3 = a 3 := by
  obtain ⟨r, S, e1, k1, k2, k3, k4⟩ := due_run (n := n + 2) (u := u) h hb
  have hS := h.fr k4
  have nr : ∀ i, a i ≠ r := fun i => Nat.ne_of_lt (Nat.lt_of_lt_of_le (h.lt i) k1)
  have ne : ∀ {i j : Fin 7}, i ≠ j → a i ≠ a j := fun q => h.ne q
  refine ⟨r, S, _, fun i => if i = 6 then r else a i, e1, end_run hS.mine (hS.at_ 6) (Nat.lt_of_le_of_lt h.ok.le hb) k3, ⟨fun i => ?_, fun i j e => ?_, fun i => ?_, h.ok⟩, ?_, fun i => ?_, rfl, rfl⟩
  · match i with
    | 0 => exact (get_set_ne (ne (by decide))).trans ((get_set_ne (nr 0)).trans (hS.at_ 0))
    | 1 => exact (get_set_ne (ne (by decide))).trans ((get_set_ne (nr 1)).trans (hS.at_ 1))
    | 2 => exact (get_set_ne (ne (by decide))).trans ((get_set_ne (nr 2)).trans (hS.at_ 2))
    | 3 => exact get_set_eq
    | 4 => exact (get_set_ne (ne (by decide))).trans ((get_set_ne (nr 4)).trans (hS.at_ 4))
    | 5 => exact (get_set_ne (ne (by decide))).trans ((get_set_ne (nr 5)).trans (hS.at_ 5))
    | 6 => exact (get_set_ne (nr 3).symm).trans get_set_eq
  · have e : (if i = 6 then r else a i) = if j = 6 then r else a j := e
    by_cases hi : i = 6
    · by_cases hj : j = 6
      · exact hi.trans hj.symm
      · rw [if_pos hi, if_neg hj] at e; exact absurd e.symm (nr j)
    · by_cases hj : j = 6
      · rw [if_neg hi, if_pos hj] at e; exact absurd e (nr i)
      · rw [if_neg hi, if_neg hj] at e; exact h.inj i j e
  · show (if i = 6 then r else a i) < S.n
    split
    · exact k2
    · exact hS.lt i
  · refine ⟨k4.n, fun j hj ha => ?_⟩
    exact (get_set_ne (ha 3)).trans ((get_set_ne (Nat.ne_of_lt (Nat.lt_of_lt_of_le hj k1))).trans (k4.at_ j hj (fun q => nomatch q)))
  · show (if i = 6 then r else a i) = a i ∨ σ.n ≤ if i = 6 then r else a i
    by_cases hi : i = 6
    · rw [if_pos hi]; exact .inr k1
    · rw [if_neg hi]; exact .inl rfl
end
end Lw.L01
namespace Lw.L01
open PySem
noncomputable def updB {α : Type} (f : Bool → α) (w : Bool) (x : α) : Bool → α := fun v => if v = w then x else f v
structure Two (σ : St) (A : Bool → Fin 7 → Nat) (L : Bool → Lot) : Prop where
  lot : ∀ w, LotAt σ (A w) (L w)
  ap : ∀ i j, A false i ≠ A true j
  a0 : A false 0 = 0 ∧ A true 0 = 3 ∧ A false 3 = 9 ∧ A true 3 = 13
section
variable {σ σ' : St} {A : Bool → Fin 7 → Nat} {L : Bool → Lot} {w : Bool} {a' : Fin 7 → Nat} {L' : Lot}
theorem Two.apart (h : Two σ A L) {v w : Bool} (hv : v ≠ w) (i j : Fin 7) : A v i ≠ A w j := by
  cases v <;> cases w
  · exact absurd rfl hv
  · exact h.ap i j
  · exact fun e => h.ap j i e.symm
  · exact absurd rfl hv
theorem Two.step (h : Two σ A L) (h1 : LotAt σ' a' L') (h2 : FrA (A w) σ σ') (h3 : ∀ i, a' i = A w i ∨ σ.n ≤ a' i) (h4 : a' 0 = A w 0) (h5 : a' 3 = A w 3) : Two σ' (updB A w a') (updB L w L') := by
  refine ⟨fun v => ?_, fun i j => ?_, ?_⟩
  · by_cases e : v = w
    · subst e
      show LotAt σ' (if v = v then a' else A v) (if v = v then L' else L v)
      rw [if_pos rfl, if_pos rfl]; exact h1
    · show LotAt σ' (if v = w then a' else A v) (if v = w then L' else L v)
      rw [if_neg e, if_neg e]
      have k := h.lot v
      exact ⟨fun i => (h2.at_ _ (k.lt i) fun j => h.apart e i j).trans (k.at_ i), k.inj, fun i => Nat.lt_of_lt_of_le (k.lt i) h2.n, k.ok⟩
  · cases w with
    | false => exact (h3 i).elim (fun q => by show a' i ≠ A true j; rw [q]; exact h.ap i j) fun q e => absurd ((h.lot true).lt j) (Nat.not_lt.mpr (show σ.n ≤ A true j from (show a' i = A true j from e) ▸ q))
    | true => exact (h3 j).elim (fun q => by show A false i ≠ a' j; rw [q]; exact h.ap i j) fun q e => absurd ((h.lot false).lt i) (Nat.not_lt.mpr (show σ.n ≤ A false i from (show A false i = a' j from e) ▸ q))
  · cases w
    · exact ⟨h4.trans h.a0.1, h.a0.2.1, h5.trans h.a0.2.2.1, h.a0.2.2.2⟩
    · exact ⟨h.a0.1, h4.trans h.a0.2.1, h.a0.2.2.1, h5.trans h.a0.2.2.2⟩
theorem updB_at {α : Type} {f : Bool → α} {w : Bool} {x : α} : updB f w x w = x := if_pos rfl
theorem updB_ne {α : Type} {f : Bool → α} {v w : Bool} {x : α} (h : v ≠ w) : updB f w x v = f v := if_neg h
noncomputable def lotV (w : Bool) : V := .ref (if w then 3 else 0)
noncomputable def mineV (w : Bool) : V := .ref (if w then 13 else 9)
theorem Two.p (h : Two σ A L) (w : Bool) : lotV w = .ref (A w 0) := by cases w; exact congrArg V.ref h.a0.1.symm; exact congrArg V.ref h.a0.2.1.symm
theorem Two.q (h : Two σ A L) (w : Bool) : mineV w = .ref (A w 3) := by cases w; exact congrArg V.ref h.a0.2.2.1.symm; exact congrArg V.ref h.a0.2.2.2.symm
noncomputable def lotsV : V := .lst [.ref 0, .ref 3]
noncomputable def minesV : V := .lst [.ref 9, .ref 13]
noncomputable def whichW (k : Int) : Bool := decide (k % 2 = 1)
theorem which_at {k : Int} : idxV σ lotsV (.int (k % 2)) = some (lotV (whichW k)) ∧ idxV σ minesV (.int (k % 2)) = some (mineV (whichW k)) ∧ idxV σ lotsV (.int (1 - k % 2)) = some (lotV (!whichW k)) ∧ idxV σ minesV (.int (1 - k % 2)) = some (mineV (!whichW k)) := by
  unfold whichW
  rcases (show k % 2 = 0 ∨ k % 2 = 1 by omega) with e | e <;> rw [e] <;> exact ⟨rfl, rfl, rfl, rfl⟩
theorem drawnAt {vs : List V} {i : Int} (h0 : 0 ≤ i) (h1 : i < vs.length) (h2 : i < 2 ^ 60) : ∃ x ∈ vs, idxV σ (.lst vs) (.int i) = some x := by
  have hlt : i.toNat < vs.length := by omega
  refine ⟨vs[i.toNat], List.getElem_mem hlt, ?_⟩
  show (place i vs.length).bind (vs[·]?) = _
  rw [place_at h0 h1 h2]; exact List.getElem?_eq_getElem hlt
theorem maybe {M : Mc} {ρ : Rho} {c e : E} {b : Bool} {k : Nat} {r : List S} {J : Rho → St → Prop} (h : Ev M ρ σ c (.bool b) σ) (he : ∃ i : Int, Ev M ρ σ e (.int i) σ) (hk : ∃ i : Int, ρ k = some (.int i)) (q : ∀ i : Int, ∃ ρ' σ', Ex M r (upd ρ k (.int i)) σ (some (.next, ρ', σ')) ∧ J ρ' σ') :
    ∃ ρ' σ', Ex M (.ite c [.assign k e] [] :: r) ρ σ (some (.next, ρ', σ')) ∧ J ρ' σ' := by
  cases b with
  | true =>
    obtain ⟨i, hi⟩ := he
    obtain ⟨ρ', σ', h1, h2⟩ := q i
    exact ⟨ρ', σ', .iteT h rfl (.assign hi h1), h2⟩
  | false =>
    obtain ⟨i, hi⟩ := hk
    obtain ⟨ρ', σ', h1, h2⟩ := q i
    have e : upd ρ k (.int i) = ρ := by
      funext j
      show (if j = k then some (V.int i) else ρ j) = ρ j
      by_cases z : j = k
      · rw [if_pos z, z, hi]
      · rw [if_neg z]
    rw [e] at h1
    exact ⟨ρ', σ', .iteF h rfl h1, h2⟩
end
section
variable {σ : St} {A : Bool → Fin 7 → Nat} {L : Bool → Lot} {n : Nat} {ns : List Int}
structure Vars (ns : List Int) (ρ : Rho) : Prop where
  s : ρ 0 = some (.lst (ns.map .int))
  l : ρ 1 = some lotsV
  m : ρ 2 = some minesV
  now : ∃ i : Int, ρ 3 = some (.int i)
end
end Lw.L01
namespace Lw.L01
open PySem
noncomputable def bodyG : List S := [.assign 5 (.bin .add (.cInt 1) (.bin .mod (.bin .add (.fcall "_law_cell_at" [(.var 0), .cInt 1]) (.bin .mul (.cInt 7) (.var 4))) (.cInt 50))), .ite (.cmp .ne (.mcall (.idx (.var 1) (.bin .mod (.var 4) (.cInt 2))) "grant" [(.var 3), (.var 5)] [] []) (.fcall "_law_due" [(.idx (.var 2) (.bin .mod (.var 4) (.cInt 2))), .cStr "grant", (.var 3), (.var 5)])) [.ret (.cBool false)] []]
noncomputable def bodyT : List S := [.assign 11 (.fcall "_law_told" [(.idx (.var 1) (.var 8)), (.var 9), (.var 3), (.var 10)]), .assign 12 (.fcall "_law_due" [(.idx (.var 2) (.var 8)), (.var 9), (.var 3), (.var 10)]), .ite (.bool false [(.cmp .ne (.var 11) (.var 12)), (.cmp .ne (.fcall "_law_whole" [(.var 11)]) (.fcall "_law_whole" [(.var 12)]))]) [.ret (.cBool false)] [], .assign 13 (.bin .add (.var 3) (.idx (.list false [(.bin .mod (.var 7) (.cInt 8)), (.bin .mod (.var 7) (.cInt 1000001)), (.bin .pow (.cInt 10) (.cInt 13))]) (.bin .mod (.var 7) (.cInt 3)))), .ite (.not (.fcall "_law_ending" [(.mcall (.idx (.var 1) (.var 8)) "due" [(.var 13)] [] []), (.idx (.var 2) (.var 8)), (.var 13)])) [.ret (.cBool false)] [], .ite (.not (.fcall "_law_ending" [(.mcall (.idx (.var 1) (.bin .sub (.cInt 1) (.var 8))) "due" [(.var 3)] [] []), (.idx (.var 2) (.bin .sub (.cInt 1) (.var 8))), (.var 3)])) [.ret (.cBool false)] []]
noncomputable def bodyM : List S := (.assign 6 (.idx (.var 0) (.var 4))) :: (.assign 7 (.idx (.var 0) (.bin .add (.var 4) (.cInt 1)))) :: (.assign 3 (.bin .add (.var 3) (.idx (.list false [(.bin .mod (.bin .fdiv (.var 6) (.cInt 6)) (.cInt 5)), (.bin .mod (.var 7) (.bin .pow (.cInt 10) (.cInt 12)))]) (.bin .fdiv (.bin .mod (.bin .fdiv (.var 6) (.cInt 30)) (.cInt 9)) (.cInt 8))))) :: (.assign 8 (.bin .mod (.var 6) (.cInt 2))) :: (.assign 9 (.idx (.list false [.cStr "grant", .cStr "renew", .cStr "grant", .cStr "drop", .cStr "renew"]) (.bin .mod (.bin .fdiv (.var 6) (.cInt 2)) (.cInt 5)))) :: (.assign 10 (.bin .mod (.var 7) (.bin .add (.bcall .len [(.idx (.idx (.var 2) (.var 8)) (.cStr "given"))]) (.cInt 2)))) :: (.ite (.cmp .eq (.bin .mod (.bin .fdiv (.var 6) (.cInt 270)) (.cInt 11)) (.cInt 0)) [.assign 10 (.idx (.list false [(.neg (.cInt 1)), (.neg (.cInt 2)), (.bin .pow (.cInt 10) (.cInt 12))]) (.bin .mod (.var 7) (.cInt 3)))] []) :: (.ite (.cmp .eq (.var 9) (.cStr "grant")) [.assign 10 (.fcall "_law_ticks" [(.var 7), (.bin .fdiv (.var 6) (.cInt 10))])] []) :: bodyT
section
variable {σ : St} {A : Bool → Fin 7 → Nat} {L : Bool → Lot} {n : Nat} {ns : List Int} {ρ : Rho}
theorem bools3 {c : Int} : ∃ u : Int, idxV σ (.lst [.int (c % 8), .int (c % 1000001), .int (10 ^ 13)]) (.int (c % 3)) = some (.int u) := drawnI (fun v hv => by
  simp only [List.mem_cons, List.not_mem_nil, or_false] at hv
  rcases hv with rfl | rfl | rfl <;> exact ⟨_, rfl⟩) (by decide) (by decide) (show (3 : Int) ≤ 3 by decide)
theorem lim3 : 3 ≤ lim := by decide
theorem lim5 : 5 ≤ lim := by decide
theorem tail_at {now cell kind num : Int} {w : Str} (T : Two σ A L) (hl : ∀ v, (L v).G.length < 59) (h1 : ρ 1 = some lotsV) (h2 : ρ 2 = some minesV) (h3 : ρ 3 = some (.int now)) (h7 : ρ 7 = some (.int cell)) (h8 : ρ 8 = some (.int (kind % 2))) (h9 : ρ 9 = some (.str w)) (h10 : ρ 10 = some (.int num))
    (hB : ∀ (σ : St) (a : Fin 7 → Nat) (L : Lot), LotAt σ a L → L.G.length < 60 → Both n σ a L w now num) :
    ∃ ρ' σ' A' L', Ex (Mh (n + 3)) bodyT ρ σ (some (.next, ρ', σ')) ∧ Two σ' A' L' ∧ (∀ v, (L' v).G.length ≤ (L v).G.length + 1) ∧ ∀ j, j ≤ 3 → ρ' j = ρ j := by
  have w1 := fun σ => which_at (σ := σ) (k := kind)
  generalize hW : whichW kind = W at w1
  obtain ⟨v, σ₁, σ₂, L', hf, e1, e2, k1, k2, k3⟩ := hB σ (A W) (L W) (T.lot W) (Nat.lt_succ_of_lt (hl W))
  have T2 := T.step k1 k2 (fun i => .inl rfl) rfl rfl
  have b2 : ∀ x, (updB L W L' x).G.length ≤ (L x).G.length + 1 := fun x => by
    by_cases e : x = W
    · rw [e, updB_at]; exact k3
    · rw [updB_ne e]; exact Nat.le_succ _
  obtain ⟨b, hw⟩ := hf.whole (σ := σ₂) (n := n + 2)
  obtain ⟨u, hu⟩ := bools3 (σ := σ₂) (c := cell)
  obtain ⟨r, σ₃, σ₄, a', d1, d2, d3, d4, d5, d6, d7⟩ := both_due (n := n) (u := now + u) (T2.lot W) (Nat.lt_of_le_of_lt (b2 W) (Nat.succ_lt_succ (hl W)))
  have m2 : methV P σ₂ (lotV W) "due" = some "Leases" := by rw [T2.p W]; exact meth_at ((T2.lot W).at_ 0) rfl
  rw [← T2.p W] at d1
  rw [← T2.q W] at d2
  have T4 := T2.step d3 d4 d5 d6 d7
  have b4 : ∀ x, (updB (updB L W L') W (updB L W L' W) x).G.length ≤ (L x).G.length + 1 := fun x => by
    by_cases e : x = W
    · rw [e, updB_at]; exact b2 W
    · rw [updB_ne e]; exact b2 x
  obtain ⟨r', σ₅, σ₆, a'', f1, f2, f3, f4, f5, f6, f7⟩ := both_due (n := n) (u := now) (T4.lot (!W)) (Nat.lt_of_le_of_lt (b4 (!W)) (Nat.succ_lt_succ (hl (!W))))
  have m4 : methV P σ₄ (lotV (!W)) "due" = some "Leases" := by rw [T4.p (!W)]; exact meth_at ((T4.lot (!W)).at_ 0) rfl
  rw [← T4.p (!W)] at f1
  rw [← T4.q (!W)] at f2
  have T6 := T4.step f3 f4 f5 f6 f7
  rw [← T.p W] at e1
  rw [← T.q W] at e2
  refine ⟨_, _, _, _, .assign (.fcall (.cons (.idx (.var h1) (.var h8) (w1 σ).1) (.cons (.var h9) (.cons (.var h3) (.cons (.var h10) .nil)))) e1)
    (.assign (.fcall (.cons (.idx (.var h2) (.var h8) (w1 σ₁).2.1) (.cons (.var h9) (.cons (.var h3) (.cons (.var h10) .nil)))) e2)
    (.iteF (.boolC (.cmp (.var rfl) (.var rfl) hf.eq) rfl (.bool1 (.cmp (.fcall (.cons (.var rfl) .nil) hw) (.fcall (.cons (.var rfl) .nil) hw) (cmp_ne (b := true) (show some (b == b) = some true by cases b <;> rfl))))) rfl
    (.assign (.add (.var h3) (.idx (.list (.cons (.mod (.var h7) .cInt (by decide)) (.cons (.mod (.var h7) .cInt (by decide)) (.cons (pow10 (by decide)) .nil))) lim3) (.mod (.var h7) .cInt (by decide)) hu))
    (.iteF (.not (.fcall (.cons (.mcall (.idx (.var h1) (.var h8) (w1 σ₂).1) m2 (.cons (.var rfl) .nil) .nil d1) (.cons (.idx (.var h2) (.var h8) (w1 σ₃).2.1) (.cons (.var rfl) .nil))) d2) rfl) rfl
    (.iteF (.not (.fcall (.cons (.mcall (.idx (.var h1) (.sub .cInt (.var h8)) (w1 σ₄).2.2.1) m4 (.cons (.var h3) .nil) .nil f1) (.cons (.idx (.var h2) (.sub .cInt (.var h8)) (w1 σ₅).2.2.2) (.cons (.var h3) .nil))) f2) rfl) rfl .nil))))), T6, fun x => ?_, fun j hj => ?_⟩
  · by_cases e : x = !W
    · rw [e, updB_at]; exact b4 (!W)
    · rw [updB_ne e]; exact b4 x
  · have n13 : j ≠ 13 := by omega
    have n12 : j ≠ 12 := by omega
    have n11 : j ≠ 11 := by omega
    show upd (upd (upd ρ 11 v) 12 v) 13 _ j = ρ j
    unfold upd
    rw [if_neg n13, if_neg n12, if_neg n11]
end
end Lw.L01
namespace Lw.L01
open PySem
section
variable {σ : St} {A : Bool → Fin 7 → Nat} {L : Bool → Lot} {n : Nat} {ns : List Int} {ρ : Rho}
theorem scr_at {i : Int} (h0 : 0 ≤ i) (h1 : i < ns.length) (h2 : ns.length ≤ 63) : ∃ x : Int, idxV σ (.lst (ns.map .int)) (.int i) = some (.int x) := by
  obtain ⟨x, hx, e⟩ := drawnAt (σ := σ) (vs := ns.map V.int) h0 (by rw [List.length_map]; exact h1) (by omega)
  obtain ⟨y, _, rfl⟩ := List.mem_map.mp hx
  exact ⟨y, e⟩
theorem word_at (n : Nat) {c : Int} : ∃ w : Str, idxV σ (.lst [.str (Str.ofString "grant"), .str (Str.ofString "renew"), .str (Str.ofString "grant"), .str (Str.ofString "drop"), .str (Str.ofString "renew")]) (.int (c % 5)) = some (.str w) ∧
    ∀ (now num : Int) (σ : St) (a : Fin 7 → Nat) (L : Lot), LotAt σ a L → L.G.length < 60 → Both n σ a L w now num := by
  obtain ⟨x, hx, e⟩ := drawn (σ := σ) (vs := [.str (Str.ofString "grant"), .str (Str.ofString "renew"), .str (Str.ofString "grant"), .str (Str.ofString "drop"), .str (Str.ofString "renew")]) (c := c) (k := 5) (by decide) (by decide) (show (5 : Int) ≤ 5 by decide)
  simp only [List.mem_cons, List.not_mem_nil, or_false] at hx
  rcases hx with rfl | rfl | rfl | rfl | rfl
  · exact ⟨_, e, fun _ _ _ _ _ h hb => both_grant h hb⟩
  · exact ⟨_, e, fun _ _ _ _ _ h hb => both_renew h hb⟩
  · exact ⟨_, e, fun _ _ _ _ _ h hb => both_grant h hb⟩
  · exact ⟨_, e, fun _ _ _ _ _ h _ => both_drop h⟩
  · exact ⟨_, e, fun _ _ _ _ _ h hb => both_renew h hb⟩
theorem two_ints {x y i : Int} (h0 : 0 ≤ i) (h1 : i < 2) : ∃ u : Int, idxV σ (.lst [.int x, .int y]) (.int i) = some (.int u) := by
  rcases (show i = 0 ∨ i = 1 by omega) with rfl | rfl
  · exact ⟨x, rfl⟩
  · exact ⟨y, rfl⟩
theorem step_at {j : Nat} (V : Vars ns ρ) (T : Two σ A L) (hl : ∀ v, (L v).G.length < 59) (hj : 2 * (j : Int) + 1 < ns.length) (h63 : ns.length ≤ 63) :
    ∃ ρ' σ', Ex (Mh (n + 3)) bodyM (upd ρ 4 (.int (0 + 2 * (j : Int)))) σ (some (.next, ρ', σ')) ∧ Vars ns ρ' ∧ ∃ A' L', Two σ' A' L' ∧ ∀ v, (L' v).G.length ≤ (L v).G.length + 1 := by
  obtain ⟨now, hnow⟩ := V.now
  obtain ⟨kind, e6⟩ := scr_at (σ := σ) (ns := ns) (i := 0 + 2 * (j : Int)) (by omega) (by omega) h63
  obtain ⟨cell, e7⟩ := scr_at (σ := σ) (ns := ns) (i := 0 + 2 * (j : Int) + 1) (by omega) (by omega) h63
  obtain ⟨d, e3⟩ := two_ints (σ := σ) (x := kind / 6 % 5) (y := cell % 10 ^ 12) (i := kind / 30 % 9 / 8) (by omega) (by omega)
  obtain ⟨w, e9, hB⟩ := word_at (σ := σ) n (c := kind / 2)
  have hm := (which_at (σ := σ) (k := kind)).2.1
  have hq := T.q (whichW kind)
  have M := (T.lot (whichW kind)).mine
  have hg : Ev (Mh (n + 3)) (upd (upd (upd (upd (upd (upd ρ 4 (.int (0 + 2 * (j : Int)))) 6 (.int kind)) 7 (.int cell)) 3 (.int (now + d))) 8 (.int (kind % 2))) 9 (.str w)) σ (.idx (.idx (.var 2) (.var 8)) (.cStr "given")) (.ref (A (whichW kind) 4)) σ := .idx (.idx (.var V.m) (.var rfl) (hm.trans (congrArg some hq))) .cStr (item_ds M.q rfl)
  have hgl := hl (whichW kind)
  obtain ⟨nm, e10⟩ : ∃ nm : Int, Ev (Mh (n + 3)) (upd (upd (upd (upd (upd (upd ρ 4 (.int (0 + 2 * (j : Int)))) 6 (.int kind)) 7 (.int cell)) 3 (.int (now + d))) 8 (.int (kind % 2))) 9 (.str w)) σ (.bin .mod (.var 7) (.bin .add (.bcall .len [(.idx (.idx (.var 2) (.var 8)) (.cStr "given"))]) (.cInt 2))) (.int nm) σ :=
    ⟨_, .mod (.var rfl) (.add (.bcall (.cons hg .nil) rfl (len_ref M.g)) .cInt) (by rw [List.length_map]; omega)⟩
  obtain ⟨ρ', σ', hx, A', L', q1, q2, q3⟩ := maybe (M := Mh (n + 3)) (σ := σ) (ρ := upd (upd (upd (upd (upd (upd (upd ρ 4 (.int (0 + 2 * (j : Int)))) 6 (.int kind)) 7 (.int cell)) 3 (.int (now + d))) 8 (.int (kind % 2))) 9 (.str w)) 10 (.int nm)) (k := 10)
    (c := .cmp .eq (.bin .mod (.bin .fdiv (.var 6) (.cInt 270)) (.cInt 11)) (.cInt 0)) (e := .idx (.list false [(.neg (.cInt 1)), (.neg (.cInt 2)), (.bin .pow (.cInt 10) (.cInt 12))]) (.bin .mod (.var 7) (.cInt 3))) (r := .ite (.cmp .eq (.var 9) (.cStr "grant")) [.assign 10 (.fcall "_law_ticks" [(.var 7), (.bin .fdiv (.var 6) (.cInt 10))])] [] :: bodyT)
    (J := fun ρ' σ' => ∃ A' L', Two σ' A' L' ∧ (∀ v, (L' v).G.length ≤ (L v).G.length + 1) ∧ ∀ i, i ≤ 3 → ρ' i = upd ρ 3 (.int (now + d)) i)
    (.cmp (.mod (.fdiv (.var rfl) .cInt (by decide)) .cInt (by decide)) .cInt rfl)
    (by
      obtain ⟨u, hu⟩ := drawnI (σ := σ) (vs := [.int (-1), .int (-2), .int (10 ^ 12)]) (c := cell) (k := 3) (fun v hv => by
        simp only [List.mem_cons, List.not_mem_nil, or_false] at hv
        rcases hv with rfl | rfl | rfl <;> exact ⟨_, rfl⟩) (by decide) (by decide) (show (3 : Int) ≤ 3 by decide)
      exact ⟨u, .idx (.list (.cons (.neg .cInt) (.cons (.neg .cInt) (.cons (pow10 (by decide)) .nil))) lim3) (.mod (.var rfl) .cInt (by decide)) hu⟩)
    ⟨nm, rfl⟩ fun i => maybe (M := Mh (n + 3)) (.cmp (.var rfl) .cStr rfl) (by
      obtain ⟨t, ht⟩ := ticks_at (σ := σ) (n + 2) cell (kind / 10)
      exact ⟨t, .fcall (.cons (.var rfl) (.cons (.fdiv (.var rfl) .cInt (by decide)) .nil)) ht⟩) ⟨i, rfl⟩ fun num => by
      obtain ⟨ρ', σ', A', L', x1, x2, x3, x4⟩ := tail_at (n := n) (ρ := upd (upd (upd (upd (upd (upd (upd (upd (upd ρ 4 (.int (0 + 2 * (j : Int)))) 6 (.int kind)) 7 (.int cell)) 3 (.int (now + d))) 8 (.int (kind % 2))) 9 (.str w)) 10 (.int nm)) 10 (.int i)) 10 (.int num)) T hl (now := now + d) (cell := cell) (kind := kind) (num := num) (w := w) V.l V.m rfl rfl rfl rfl rfl (hB (now + d) num)
      refine ⟨ρ', σ', x1, A', L', x2, x3, fun z hz => (x4 z hz).trans ?_⟩
      match z, hz with
      | 0, _ => rfl
      | 1, _ => rfl
      | 2, _ => rfl
      | 3, _ => rfl
  refine ⟨ρ', σ', .assign (.idx (.var V.s) (.var rfl) e6) (.assign (.idx (.var V.s) (.add (.var rfl) .cInt) e7) (.assign (.add (.var hnow) (.idx (.list (.cons (.mod (.fdiv (.var rfl) .cInt (by decide)) .cInt (by decide)) (.cons (.mod (.var rfl) (pow10 (by decide)) (by decide)) .nil)) lim2) (.fdiv (.mod (.fdiv (.var rfl) .cInt (by decide)) .cInt (by decide)) .cInt (by decide)) e3))
    (.assign (.mod (.var rfl) .cInt (by decide)) (.assign (.idx (.list (.cons .cStr (.cons .cStr (.cons .cStr (.cons .cStr (.cons .cStr .nil))))) lim5) (.mod (.fdiv (.var rfl) .cInt (by decide)) .cInt (by decide)) e9) (.assign e10 hx))))), ⟨(q3 0 (by decide)).trans V.s, (q3 1 (by decide)).trans V.l, (q3 2 (by decide)).trans V.m, _, q3 3 (by decide)⟩, A', L', q1, q2⟩
end
end Lw.L01
namespace Lw.L01
open PySem
theorem dict0i {M : Mc} {ρ : Rho} {σ : St} : Ev M ρ σ (.dict0 false) (.ref σ.n) (σ.new (.di false [])) := rfl
noncomputable def initTo (σ : St) (i : Nat) : St := ((((σ.set i (.inst "Leases" [("given", .int 0)])).new (.di false [])).set i (.inst "Leases" [("given", .int 0), ("ends", .ref σ.n)])).new (.di false [])).set i (instO 0 σ.n (σ.n + 1))
theorem init_run {σ : St} {i n : Nat} (h : σ.get i = some (.inst "Leases" [])) (hi : i < σ.n) : run P (n + 1) false "Leases" "__init__" [.ref i] [] σ = some (.ok .none, initTo σ i) :=
  call_at0 rfl rfl rfl (.setattr .cInt (.var rfl) (setattr_at h (show (0 : Nat) < 100 by decide)) (.setattr dict0i (.var rfl) (setattr_at ((get_new_lt (σ := σ.set i (.inst "Leases" [("given", .int 0)])) hi).trans get_set_eq) (show (1 : Nat) < 100 by decide))
    (.setattr dict0i (.var rfl) (setattr_at ((get_new_lt (σ := ((σ.set i (.inst "Leases" [("given", .int 0)])).new (.di false [])).set i (.inst "Leases" [("given", .int 0), ("ends", .ref σ.n)])) (Nat.lt_succ_of_lt hi)).trans get_set_eq) (show (2 : Nat) < 100 by decide)) .nil)))
noncomputable def stA : St := initTo ((initTo (St.empty.new (.inst "Leases" [])) 0).new (.inst "Leases" [])) 3
noncomputable def mineTo (σ : St) : St := (((σ.new (.list false [])).new (.di false [])).new (.list false [])).new (mineO σ.n (σ.n + 1) (σ.n + 2))
noncomputable def stB : St := mineTo (mineTo stA)
theorem lots_ev {n : Nat} {ρ : Rho} : Ev (Mh (n + 1)) ρ St.empty (.list false [(.new "Leases" [] [] []), (.new "Leases" [] [] [])]) lotsV stA :=
  .list (.cons (.new .nil .nil (init_run (n := n) (σ := St.empty.new (.inst "Leases" [])) (i := 0) rfl (Nat.lt_succ_self _))) (.cons (.new (σ₃ := stA) .nil .nil (init_run (n := n) (σ := (initTo (St.empty.new (.inst "Leases" [])) 0).new (.inst "Leases" [])) (i := 3) rfl (Nat.lt_succ_self _))) .nil)) lim2
theorem mines_ev {M : Mc} {ρ : Rho} : Ev M ρ stA (.list false [(.dict ["given", "ends", "told"] [(.list true []), (.dict0 false), (.list true [])]), (.dict ["given", "ends", "told"] [(.list true []), (.dict0 false), (.list true [])])]) minesV stB :=
  .list (.cons (.dict (.cons (.listM .nil lim0) (.cons dict0i (.cons (.listM .nil lim0) .nil)))) (.cons (.dict (.cons (.listM .nil lim0) (.cons dict0i (.cons (.listM .nil lim0) .nil)))) .nil)) lim2
noncomputable def ad0 : Bool → Fin 7 → Nat
  | false => fun i => match i with | 0 => 0 | 1 => 1 | 2 => 2 | 3 => 9 | 4 => 6 | 5 => 7 | 6 => 8
  | true => fun i => match i with | 0 => 3 | 1 => 4 | 2 => 5 | 3 => 13 | 4 => 10 | 5 => 11 | 6 => 12
noncomputable def lot0 : Lot := ⟨[], [], []⟩
theorem two0 : Two stB ad0 fun _ => lot0 := by
  refine ⟨fun w => ⟨fun i => ?_, ?_, ?_, ⟨fun k v h => (by cases h), Nat.le_refl _, Nat.le_refl _⟩⟩, by decide, rfl, rfl, rfl, rfl⟩
  · cases w
    · match i with
      | 0 => rfl
      | 1 => rfl
      | 2 => rfl
      | 3 => rfl
      | 4 => rfl
      | 5 => rfl
      | 6 => rfl
    · match i with
      | 0 => rfl
      | 1 => rfl
      | 2 => rfl
      | 3 => rfl
      | 4 => rfl
      | 5 => rfl
      | 6 => rfl
  · cases w <;> decide
  · cases w <;> decide
section
variable {σ : St} {A : Bool → Fin 7 → Nat} {L : Bool → Lot} {n : Nat} {ns : List Int} {ρ : Rho}
theorem rng_get {k : Int} {i : Nat} {v : V} (h : (rngList 0 k 1)[i]? = some v) : v = .int i ∧ (i : Int) < k := by
  unfold rngList at h
  rw [List.getElem?_map] at h
  obtain ⟨j, hj, rfl⟩ := Option.map_eq_some_iff.mp h
  obtain ⟨h1, h2⟩ := List.getElem?_eq_some_iff.mp hj
  rw [List.length_range] at h1
  rw [List.getElem_range] at h2
  subst h2
  exact ⟨congrArg V.int (by omega), by omega⟩
theorem ahead_at {i : Nat} (V : Vars ns ρ) (T : Two σ A L) (hi : i < 40) (hl : ∀ v, (L v).G.length < 59) : ∃ ρ' σ', Ex (Mh (n + 3)) bodyG (upd ρ 4 (.int i)) σ (some (.next, ρ', σ')) ∧ Vars ns ρ' ∧ ∃ A' L', Two σ' A' L' ∧ (∀ v, v ≠ whichW i → L' v = L v) ∧ (L' (whichW i)).G.length = (L (whichW i)).G.length + 1 := by
  obtain ⟨now, hnow⟩ := V.now
  obtain ⟨c, hc⟩ := cell_at (σ := σ) (n + 2) ns 1 (by decide)
  have w1 := fun σ => which_at (σ := σ) (k := (i : Int))
  generalize whichW (i : Int) = W at w1
  have hb := Nat.lt_succ_of_lt (hl W)
  generalize ht : 1 + (c + 7 * (i : Int)) % 50 = t
  have h1 : ¬ t < 1 := by omega
  have h2 : ¬ 1000000 < t := by omega
  have e1 := grant_run (n := n + 2) (now := now) (T.lot W) hb h1 h2
  have e2 := due_grant (n := n + 2) (now := now) (gP_mine (now := now) (t := t) (T.lot W)) (T.lot W).ok hb h1 h2
  have T2 := T.step (gL_at (now := now) (t := t) (T.lot W) hb) (FrA.set (FrA.set (FrA.set (FrA.set (FrA.set FrA.refl))))) (fun i => .inl rfl) rfl rfl
  have m : methV P σ (lotV W) "grant" = some "Leases" := by rw [T.p W]; exact meth_at ((T.lot W).at_ 0) rfl
  rw [← T.p W] at e1
  rw [← T.q W] at e2
  subst ht
  refine ⟨_, _, .assign (.add .cInt (.mod (.add (.fcall (.cons (.var V.s) (.cons .cInt .nil)) hc) (.mul .cInt (.var rfl) ⟨by decide, by omega⟩)) .cInt (by decide)))
    (.iteF (.cmp (.mcall (.idx (.var V.l) (.mod (.var rfl) .cInt (by decide)) (w1 σ).1) m (.cons (.var hnow) (.cons (.var rfl) .nil)) .nil e1) (.fcall (.cons (.idx (.var V.m) (.mod (.var rfl) .cInt (by decide)) (w1 _).2.1) (.cons .cStr (.cons (.var hnow) (.cons (.var rfl) .nil)))) e2) ne_self) rfl .nil), ⟨V.s, V.l, V.m, now, hnow⟩, _, _, T2, fun v hv => updB_ne hv, ?_⟩
  rw [updB_at]
  show ((L W).G ++ [_]).length = _
  rw [List.length_append]; rfl
theorem ahead_all (V : Vars ns ρ) : ∃ ρ' σ', loop (fun v ρ σ => execs P (run P (n + 3)) false true bodyG (upd ρ 4 v) σ) (rngList 0 40 1) ρ stB = some (.next, ρ', σ') ∧ Vars ns ρ' ∧ ∃ A L, Two σ' A L ∧ ∀ v, (L v).G.length ≤ 20 := by
  obtain ⟨ρ', σ', e, V', A, L, T, l1, l2⟩ := loop_inv (f := fun v ρ σ => execs P (run P (n + 3)) false true bodyG (upd ρ 4 v) σ) (fun i ρ σ => Vars ns ρ ∧ ∃ A L, Two σ A L ∧ 2 * (L false).G.length ≤ i + 1 ∧ 2 * (L true).G.length ≤ i) (rngList 0 40 1) 0 ρ stB ⟨V, _, _, two0, Nat.zero_le _, Nat.le_refl _⟩ fun i v ρ σ hv ⟨V, A, L, T, l1, l2⟩ => by
    obtain ⟨rfl, hi⟩ := rng_get hv
    rw [Nat.zero_add] at l1 l2
    obtain ⟨ρ', σ', x1, x2, A', L', x3, x4, x5⟩ := ahead_at (n := n) (i := i) V T (by omega) (fun v => by cases v <;> omega)
    refine ⟨ρ', σ', x1, x2, A', L', x3, ?_, ?_⟩
    · by_cases q : (i : Int) % 2 = 1
      · have qw : whichW i = true := decide_eq_true q
        rw [x4 false (by rw [qw]; decide)]; omega
      · have qw : whichW i = false := decide_eq_false q
        rw [qw] at x5
        rw [x5]; omega
    · by_cases q : (i : Int) % 2 = 1
      · have qw : whichW i = true := decide_eq_true q
        rw [qw] at x5
        rw [x5]; omega
      · have qw : whichW i = false := decide_eq_false q
        rw [x4 true (by rw [qw]; decide)]; omega
  have hl : (rngList 0 40 1).length = 40 := rng_len
  rw [hl] at l1 l2
  exact ⟨ρ', σ', e, V', A, L, T, fun v => by cases v <;> omega⟩
theorem main_all {A : Bool → Fin 7 → Nat} {L : Bool → Lot} (V : Vars ns ρ) (T : Two σ A L) (hl : ∀ v, (L v).G.length ≤ 20) (h63 : ns.length ≤ 63) : ∃ ρ' σ', loop (fun v ρ σ => execs P (run P (n + 3)) false true bodyM (upd ρ 4 v) σ) (rngList 0 ((ns.length : Int) - 1) 2) ρ σ = some (.next, ρ', σ') := by
  have hlen : (rngList 0 ((ns.length : Int) - 1) 2).length ≤ 31 := by
    unfold rngList
    rw [List.length_map, List.length_range]; omega
  obtain ⟨ρ', σ', e, _⟩ := loop_fold (f := fun v ρ σ => execs P (run P (n + 3)) false true bodyM (upd ρ 4 v) σ) (fun (_ : Unit) _ => ()) (fun m _ ρ σ => Vars ns ρ ∧ ∃ A L, Two σ A L ∧ ∀ v, (L v).G.length + m ≤ 52) (rngList 0 ((ns.length : Int) - 1) 2) () ρ σ ⟨V, A, L, T, fun v => by have := hl v; omega⟩ fun v hv m _ ρ σ ⟨V, A, L, T, hl⟩ => by
    obtain ⟨j, hj, rfl⟩ := List.mem_map.mp hv
    rw [List.mem_range] at hj
    obtain ⟨ρ', σ', x1, x2, A', L', x3, x4⟩ := step_at (n := n) (j := j) V T (fun v => by have := hl v; omega) (by omega) h63
    exact ⟨ρ', σ', x1, x2, A', L', x3, fun v => by have := hl v; have := x4 v; omega⟩
  exact ⟨ρ', σ', e⟩
theorem law_at (n : Nat) (ns : List Int) (h63 : ns.length ≤ 63) : ∃ σ', run P (n + 4) false "" "law" [.lst (ns.map .int)] [] St.empty = some (.ok (.bool true), σ') := by
  obtain ⟨c, hc⟩ := cell_at (σ := stB) (n + 2) ns 0 (by decide)
  have hc0 : Ev (Mh (n + 3)) (upd (upd (upd (rhoOf [.lst (ns.map .int)]) 1 lotsV) 2 minesV) 3 (.int 0)) stB (.cmp .eq (.bin .mod (.bin .fdiv (.fcall "_law_cell_at" [(.var 0), .cInt 0]) (.cInt 6)) (.cInt 3)) (.cInt 0)) (.bool (c / 6 % 3 == 0)) stB := .cmp (.mod (.fdiv (.fcall (.cons (.var rfl) (.cons .cInt .nil)) hc) .cInt (by decide)) .cInt (by decide)) .cInt rfl
  have V0 : Vars ns (upd (upd (upd (rhoOf [.lst (ns.map .int)]) 1 lotsV) 2 minesV) 3 (.int 0)) := ⟨rfl, rfl, rfl, 0, rfl⟩
  have last : ∀ (ρ : Rho) (σ : St) (A : Bool → Fin 7 → Nat) (L : Bool → Lot), Vars ns ρ → Two σ A L → (∀ v, (L v).G.length ≤ 20) → ∃ ρ' σ', Ex (Mh (n + 3)) [.for1 4 (.bcall .range [.cInt 0, (.bin .sub (.bcall .len [(.var 0)]) (.cInt 1)), .cInt 2]) bodyM, .ret (.bool true [(.fcall "_law_whole" [(.gint "MOST_TICKS" 1000000)]), (.cmp .eq (.gint "MOST_TICKS" 1000000) (.cInt 1000000))])] ρ σ (some (.ret (.bool true), ρ', σ')) := fun ρ σ A L W T hl => by
    obtain ⟨ρ', σ', e⟩ := main_all (n := n) W T hl h63
    have hlm : ((ns.map Lw.V.int).length : Int) = ns.length := by rw [List.length_map]
    refine ⟨ρ', σ', .for1 rfl (.bcall (.cons .cInt (.cons (.sub (.bcall (.cons (.var W.s) .nil) rfl rfl) .cInt) (.cons .cInt .nil))) rfl rfl) (if_pos ⟨by decide, by decide, ?_, by decide, ?_⟩) (by rw [hlm]; exact e) (.ret (.boolC (.fcall (.cons .gint .nil) (whole_int (n := n + 2) (hd := false) (i := 1000000))) rfl (.bool1 (.cmp .gint .cInt rfl))))⟩
    · rw [hlm]; omega
    · rw [hlm]; unfold lim; omega
  cases h0 : c / 6 % 3 == 0 with
  | true =>
    rw [h0] at hc0
    obtain ⟨ρ₁, σ₁, e, V1, A, L, T, hl⟩ := ahead_all (n := n) V0
    obtain ⟨ρ', σ', hx⟩ := last ρ₁ σ₁ A L V1 T hl
    exact ⟨σ', call_at rfl rfl rfl (.assign lots_ev (.assign mines_ev (.assign .cInt (.iteT hc0 rfl (.for1 rfl (.bcall (.cons .cInt .nil) rfl rfl) (rng_items (by decide) (by decide)) e hx)))))⟩
  | false =>
    rw [h0] at hc0
    obtain ⟨ρ', σ', hx⟩ := last _ _ _ _ V0 two0 (fun v => Nat.zero_le _)
    exact ⟨σ', call_at rfl rfl rfl (.assign lots_ev (.assign mines_ev (.assign .cInt (.iteF hc0 rfl hx))))⟩
end
end Lw.L01
open PySem PySem.W PyProof.Rows
namespace Lw.L01
noncomputable abbrev Pr : Program := PySem.Challenge.rw_uf040027_01.row.prog
noncomputable def V : Program := viewOf Pr
noncomputable def Xt (s : Shared) : Bool := xlAt V [] s && recOk (RowW.records PySem.Challenge.rw_uf040027_01.row.toRowW) s
theorem t1 : opening Pr = plainProg Pr.main.scope.names := by kernel_rfl
theorem t2 (s : Shared) : fenceModules? Pr s = some s := by kernel_rfl
theorem t3 (w : World) : (boot_heap w.params).isNs mainGlobals = true := by kernel_rfl
theorem ran (w : World) : (endsOf Pr 4406 w).map (fun s => (openSeen V [] (importedModules Pr.main.body) Xt true s, tbl.all (entOk (fragOf (List.range 260) s) com), comOk (fragOf (List.range 260) s) com sub tbl)) = some (openGood V [], true, true) := by
  refine ends_of t1 rfl t2 (t3 w) fun os => ?_
  rw [PySem.W.Fast.te4187177175401517315]
  kernel_rfl
theorem seen (w : World) : (endsOf Pr 4406 w).map (fun s => openSeen V [] (importedModules Pr.main.body) Xt true s) = some (openGood V []) := ran1 (ran w)
theorem left : LeftO Pr V [] Xt (fun s => some s.heap) (fun w => (endsOf Pr 4406 w).map (·.heap)) 4406 := left_of (p := Pr) (q := V) (loose := []) (Xt := Xt) (N := 4406) seen
end Lw.L01
open PySem PySem.W PyProof.Rows
namespace Lw.L01
noncomputable abbrev R := PySem.Challenge.rw_uf040027_01
theorem h1 : defOf V R.row.name = some (defD V (Str.ofString "law"), []) := by kernel_rfl
theorem h2 : R.row.prog.theDef R.row.name = some ((defD V (Str.ofString "law")).params, (defD V (Str.ofString "law")).body, (defD V (Str.ofString "law")).scope) := by kernel_rfl
theorem h3 : kwWritten? (defD V (Str.ofString "law")).params.kwonlyargs (defD V (Str.ofString "law")).params.kw_defaults = some [] := by kernel_rfl
theorem h4 : (!R.row.writes || R.row.toRowW.records.isEmpty) = true := by kernel_rfl
theorem h5 : (chainsOk V && opensWell R.row.prog && (frees R.row.toRowW && R.row.toRowW.within.isEmpty)) = true := by kernel_rfl
theorem h6 : R.wellSaid = true := by kernel_rfl
end Lw.L01
set_option maxRecDepth 100000 in
set_option maxHeartbeats 1000000 in
theorem PySem.Challenge.cw_uf040027_01_holds : PySem.Challenge.rw_uf040027_01.Holds := by
  refine holds_law Lw.L01.h6 fun said => ?_
  refine holds_open (r := PySem.Challenge.rw_uf040027_01.row) (q := Lw.L01.V) (loose := []) (Xt := Lw.L01.Xt) (XP := XL Lw.L01.V []) (YP := Lw.saysOf PySem.Challenge.rw_uf040027_01.row.prog 4406)
    (d := Lw.defD Lw.L01.V (Str.ofString "law")) (kwd := []) (N := 4406) Lw.L01.left (Lw.says_of _ _) (Lw.says_keeps _ _) (fun s e => xl_of s (Bool.and_eq_true_iff.mp e).1) XL.keeps Lw.L01.h1 Lw.L01.h2 Lw.L01.h3 (fun s e => recFacts_of (Bool.and_eq_true_iff.mp e).2)
    Lw.L01.h4 said Lw.L01.h5 ⟨rfl, rfl, rfl, rfl, rfl, by decide +kernel⟩ ?hw ?hc
  case hw => w_witness2
  intro w s₀ s₁ mg mb G Y fa o pm cd doc dV kV ho hd hcd hD hmg hg args vals as hpre hlay hrd hwl hlo
  refine Ground.open G ?_
  intro T B D TE TW
  wrow_args hpre hlay hrd hwl hlo
  rename_i ns _ _ _ _ _ _ _ l vs _ hL _ _ _ hI _ hcond _
  obtain ⟨K, KX, hE, hC⟩ := Lw.frag_ran (Lw.L01.ran w) Y
  refine Lw.law_top (G := ⟨PySem.Challenge.rw_uf040027_01.row.prog, w, K, mg, mb, Lw.L01.P, Lw.L01.com⟩) (sub := Lw.L01.sub) (n := 4) rfl KX T.g T.b T.nolimit T.builtins hmg hE hC Lw.sortStrs (fun _ => Lw.sortPairs) rfl hL hI (by omega) (by decide) (Lw.L01.law_at 0 ns (by omega)) fun s' hs hk => ?_
  obtain ⟨h', tk, rfl⟩ := hs
  refine GoodW.toG ⟨.inl ⟨.bool true, .bool true, [], rfl, fun _ => rfl, .bool true, ?_, fun _ => ⟨List.nodup_nil, fun a ha => (by cases ha)⟩⟩, hk, rfl, hg⟩
  first | rfl | kernel_rfl
