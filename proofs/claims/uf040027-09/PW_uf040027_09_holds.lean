import PyProof.Rows.All
import PyProof.P3Statements
import Open.Row
import Wide.All
import KE.KDictList
import KE.KDictSum
import KE.KSortAsk
import KE.KSortTup
import KE.KIsAll
import PyProof.ExcClass3
import PyProof.ExcAttrAll.ValueError
import Open.Tree
import Open.Boot
import Open.FastT9
import Wide.FinOn
import PyProof.TableCode
import PyProof.Rows.ZipGen
import PySem.Challenge.RW_uf040027_09
set_option Elab.async false
set_option linter.all false
set_option autoImplicit false
set_option genInjectivity false
set_option genSizeOf false
namespace Lw
open PySem
inductive V where
  | none
  | bool (b : Bool)
  | int (i : Int)
  | str (s : Str)
  | tup (vs : List V)
  | lst (vs : List V)
  | rng (a b c : Int)
  | ref (i : Nat)
  | exc (c : String)
  deriving Inhabited
noncomputable def V.isNone : V → Bool
  | .none => true
  | _ => false
inductive O where
  | list (lk : Bool) (vs : List V)
  | di (lk : Bool) (es : List (Int × V))
  | ds (lk : Bool) (es : List (Str × V))
  | inst (c : String) (fs : List (String × V))
structure St where
  n : Nat
  f : Nat → Option O
noncomputable def St.get (σ : St) (i : Nat) : Option O := σ.f i
noncomputable def St.set (σ : St) (i : Nat) (o : O) : St := ⟨σ.n, fun j => if j = i then some o else σ.f j⟩
noncomputable def St.new (σ : St) (o : O) : St := ⟨σ.n + 1, fun j => if j = σ.n then some o else σ.f j⟩
noncomputable def St.empty : St := ⟨0, fun _ => none⟩
inductive Res (α : Type) where
  | ok (a : α)
  | exc (c : String)
abbrev RV := Option (Res V × St)
noncomputable def bindM {α β : Type} (m : Option (Res α × St)) (k : α → St → Option (Res β × St)) : Option (Res β × St) :=
  match m with
  | none => none
  | some (.exc c, σ) => some (.exc c, σ)
  | some (.ok a, σ) => k a σ
inductive Ty where
  | int | bool | str | tuple | list | valueError
  | own (c : String)
inductive BOp where | add | sub | mul | fdiv | mod | pow
inductive COp where | lt | le | gt | ge | eq | ne | isin | notin
inductive Bf where | len | sorted (pr mt : Bool) | range | min | list
inductive Bm where | append | clear | pop | startswith | join
inductive E where
  | cNone | cBool (b : Bool) | cInt (i : Int) | cStr (s : Str)
  | var (k : Nat)
  | gint (x : String) (i : Int)
  | bin (op : BOp) (a b : E)
  | cmp (op : COp) (a b : E)
  | chain (a b c : E)
  | isNone (a : E) | notNone (a : E)
  | bool (isAnd : Bool) (es : List E)
  | not (a : E) | neg (a : E)
  | fcall (f : String) (args : List E)
  | new (c : String) (args : List E) (kwn : List String) (kwe : List E)
  | mcall (o : E) (m : String) (args : List E) (kwn : List String) (kwe : List E)
  | bcall (f : Bf) (args : List E)
  | bmeth (m : Bm) (o : E) (args : List E)
  | isinst (a : E) (t : Ty)
  | attr (o : E) (a : String)
  | idx (o i : E)
  | slice (mt : Bool) (o lo hi : E)
  | list (mt : Bool) (es : List E)
  | tup (es : List E)
  | dict0 (str : Bool)
  | dict (ks : List Str) (vs : List E)
  | comp (mt : Bool) (elt : E) (k : Nat) (it cond : E)
inductive S where
  | expr (e : E)
  | assign (k : Nat) (e : E)
  | setattr (o : E) (a : String) (e : E)
  | setidx (o i e : E)
  | ite (c : E) (t f : List S)
  | for1 (k : Nat) (it : E) (b : List S)
  | forZ (k1 k2 : Nat) (a b : E) (c : List S)
  | ret (e : E)
  | raise (c : String) (msg : Str)
  | tryx (b : List S) (c : String) (k : Nat) (h : List S)
structure Fn where
  params : List String
  defaults : List V
  body : List S
structure Prog where
  fns : String → String → Option Fn
  sub : String → String → Bool
abbrev Rho := Nat → Option V
noncomputable def upd (ρ : Rho) (k : Nat) (v : V) : Rho := fun j => if j = k then some v else ρ j
noncomputable def lim : Nat := 1000000
section
variable {κ ν : Type} [DecidableEq κ]
noncomputable def lk (kvs : List (κ × ν)) (k : κ) : Option ν := (kvs.find? fun kv => kv.1 = k).map (·.2)
noncomputable def st (kvs : List (κ × ν)) (k : κ) (v : ν) : List (κ × ν) :=
  if kvs.any (fun kv => kv.1 = k) then kvs.map (fun kv => if kv.1 = k then (kv.1, v) else kv) else kvs ++ [(k, v)]
noncomputable def rm (kvs : List (κ × ν)) (k : κ) : List (κ × ν) := kvs.filter fun kv => decide (kv.1 ≠ k)
end
noncomputable def onO {α β : Type} (o : Option α) (k : α → Option β) : Option β := match o with | some a => k a | none => none
noncomputable def mapO {α β : Type} (f : α → Option β) : List α → Option (List β)
  | [] => some []
  | a :: r => onO (f a) fun b => onO (mapO f r) fun bs => some (b :: bs)
noncomputable def withInt {α : Type} (v : V) (k : Int → Option α) : Option α := match v with | .int i => k i | _ => none
noncomputable def withStr {α : Type} (v : V) (k : Str → Option α) : Option α := match v with | .str s => k s | _ => none
noncomputable def withLst {α : Type} (v : V) (k : List V → Option α) : Option α := match v with | .lst s => k s | _ => none
noncomputable def withRef {α : Type} (v : V) (k : Nat → Option α) : Option α := match v with | .ref i => k i | _ => none
noncomputable def O.items : O → Option (List V)
  | .list _ vs => some vs
  | _ => none
noncomputable def listAt (σ : St) (i : Nat) : Option (List V) := (σ.get i).bind O.items
noncomputable def flatD : V → Option PyData
  | .none => some .none
  | .bool b => some (.bool b)
  | .int i => some (.int i)
  | .str s => some (.str s)
  | _ => none
noncomputable def seqD (f : List V → Option (List PyData)) (σ : St) : V → Option PyData
  | .tup vs => (f vs).map .tuple
  | .lst vs => (f vs).map .list
  | .ref i => onO (listAt σ i) fun vs => (f vs).map .list
  | _ => none
noncomputable def orElse {α : Type} (a b : Option α) : Option α := match a with | some x => some x | none => b
noncomputable def dataOf (σ : St) : Nat → V → Option PyData
  | 0, v => flatD v
  | n + 1, v => orElse (flatD v) (seqD (mapO (dataOf σ n)) σ v)
noncomputable def eqV (σ : St) (a b : V) : Option Bool := onO (dataOf σ 6 a) fun x => onO (dataOf σ 6 b) fun y => some (PyData.eqv x y)
noncomputable def inL (σ : St) (a : V) (vs : List V) : Option Bool := onO (mapO (dataOf σ 5) vs) fun xs => onO (dataOf σ 6 a) fun d => some (xs.any fun y => PyData.eqv y d)
noncomputable def inO (σ : St) (a : V) : O → Option Bool
  | .di _ es => withInt a fun k => some (lk es k).isSome
  | .ds _ es => withStr a fun k => some (lk es k).isSome
  | .list _ vs => inL σ a vs
  | .inst _ _ => none
noncomputable def inV (σ : St) (a b : V) : Option Bool := match b with
  | .ref i => onO (σ.get i) (inO σ a)
  | .lst vs => inL σ a vs
  | _ => none
noncomputable def seqOf (σ : St) : V → Option (List V)
  | .lst vs => some vs
  | .ref i => listAt σ i
  | _ => none
noncomputable def cmpI (a b : V) (k : Int → Int → Bool) : Option Bool := withInt a fun i => withInt b fun j => some (k i j)
noncomputable def cmpV (σ : St) (op : COp) (a b : V) : Option Bool := match op with
  | .lt => cmpI a b fun a b => decide (a < b)
  | .le => cmpI a b fun a b => decide (a ≤ b)
  | .gt => cmpI a b fun a b => decide (b < a)
  | .ge => cmpI a b fun a b => decide (b ≤ a)
  | .eq => eqV σ a b
  | .ne => (eqV σ a b).map (!·)
  | .isin => inV σ a b
  | .notin => (inV σ a b).map (!·)
noncomputable def int2 (a b : V) (k : Int → Int → Option V) : Option V := withInt a fun i => withInt b fun j => k i j
noncomputable def addV (a b : V) : Option V := match a with
  | .int i => withInt b fun j => some (.int (i + j))
  | .str s => withStr b fun u => if s.length + u.length ≤ lim then some (.str (s ++ u)) else none
  | .lst s => withLst b fun u => if s.length + u.length ≤ lim then some (.lst (s ++ u)) else none
  | _ => none
noncomputable def binV (op : BOp) (a b : V) : Option V := match op with
  | .add => addV a b
  | .sub => int2 a b fun a b => some (.int (a - b))
  | .mul => int2 a b fun a b => if a.natAbs < 2 ^ 60 ∧ b.natAbs < 2 ^ 60 then some (.int (a * b)) else none
  | .fdiv => int2 a b fun a b => if 0 < b ∧ b < 2 ^ 60 then some (.int (a / b)) else none
  | .mod => int2 a b fun a b => if 0 < b ∧ b < 2 ^ 60 then some (.int (a % b)) else none
  | .pow => int2 a b fun a b => if a = 10 ∧ 0 ≤ b ∧ b ≤ 40 then some (.int (10 ^ b.toNat)) else none
noncomputable def truthV (_ : St) : V → Option Bool
  | .none => some false
  | .bool b => some b
  | .int i => some (decide (i ≠ 0))
  | _ => none
noncomputable def flatKind : V → Option Nat
  | .none => some 0 | .bool _ => some 1 | .int _ => some 2 | .str _ => some 3 | _ => none
noncomputable def withTup {α : Type} (v : V) (k : List V → Option α) : Option α := match v with | .tup s => k s | _ => none
noncomputable def withExc {α : Type} (v : V) (k : String → Option α) : Option α := match v with | .exc c => k c | _ => none
noncomputable def O.isOf (d : String) : O → Option Bool
  | .inst c _ => if c = d then some true else none
  | _ => none
noncomputable def isinstV (P : Prog) (σ : St) (v : V) (t : Ty) : Option Bool := match t with
  | .int => (flatKind v).map fun k => k == 1 || k == 2
  | .bool => (flatKind v).map fun k => k == 1
  | .str => (flatKind v).map fun k => k == 3
  | .tuple => withTup v fun _ => some true
  | .list => (seqOf σ v).map fun _ => true
  | .valueError => withExc v fun _ => some true
  | .own d => orElse (withExc v fun c => some (P.sub c d)) (withRef v fun i => onO (σ.get i) (O.isOf d))
noncomputable def place (i : Int) (n : Nat) : Option Nat :=
  if i.natAbs < 2 ^ 60 then
    (if 0 ≤ i then (if i < n then some i.toNat else none) else (if 0 ≤ i + n then some (i + n).toNat else none))
  else none
noncomputable def at1 (vs : List V) (k : Int) : Option V := (place k vs.length).bind (vs[·]?)
noncomputable def idxO (i : V) : O → Option V
  | .list _ vs => withInt i (at1 vs)
  | .di _ es => withInt i (lk es)
  | .ds _ es => withStr i (lk es)
  | .inst _ _ => none
noncomputable def idxS (s : Str) (k : Int) : Option V := (place k s.cps.size).bind fun j => (s.cps[j]?).map fun c => .str ⟨#[c]⟩
noncomputable def idxV (σ : St) (o i : V) : Option V := match o with
  | .lst vs => withInt i (at1 vs)
  | .tup vs => withInt i (at1 vs)
  | .str s => withInt i (idxS s)
  | .ref r => (σ.get r).bind (idxO i)
  | _ => none
noncomputable def clamp (d : Nat) (v : V) (n : Nat) : Option Nat := match v with
  | .none => some d
  | .int i => some (if 0 ≤ i then min i.toNat n else (i + n).toNat)
  | _ => none
noncomputable def cutV {α : Type} (lo hi : V) (m : Nat) (k : Nat → Nat → Option α) : Option α := onO (clamp 0 lo m) fun a => onO (clamp m hi m) fun b => k a b
noncomputable def cutL {α : Type} (xs : List α) (lo hi : Nat) : List α := (xs.take hi).drop lo
noncomputable def sOk (s : Str) : Bool := PyData.strOk s && decide (s.cps.size ≤ lim)
noncomputable def mkL (mt : Bool) (vs : List V) (σ : St) : RV :=
  if mt then some (.ok (.ref σ.n), σ.new (.list false vs)) else some (.ok (.lst vs), σ)
noncomputable def mkList (mt : Bool) (vs : List V) (σ : St) : RV := if vs.length ≤ lim then mkL mt vs σ else none
noncomputable def sliceV (mt : Bool) (o lo hi : V) (σ : St) : RV := match o with
  | .str s => cutV lo hi s.cps.size fun a b => some (.ok (.str ⟨(cutL s.cps.toList a b).toArray⟩), σ)
  | o => onO (seqOf σ o) fun vs => cutV lo hi vs.length fun a b => mkL mt (cutL vs a b) σ
noncomputable def strLe (a b : Str) : Bool := !(decide (b.cps.toList < a.cps.toList))
noncomputable def askT {α : Type} (c : Nat → Nat → Bool) : PySem.W.KasT α → α
  | .ret a => a
  | .ask i j k => askT c (k (c i j))
noncomputable def pairLt (a b : Int × Int) : Bool := if a.1 = b.1 then decide (a.2 < b.2) else decide (a.1 < b.1)
noncomputable def pairAt (ps : List (Int × Int)) (i : Nat) : Int × Int := ps.getD i (0, 0)
noncomputable def orderP (ps : List (Int × Int)) : List Nat := (askT (fun i j => pairLt (pairAt ps i) (pairAt ps j)) (PySem.W.kas_sort ps.length)).toList
noncomputable def sortP (ps : List (Int × Int)) : List (Int × Int) := (orderP ps).map (pairAt ps)
noncomputable def asStrs : List V → Option (List Str) := mapO fun v => withStr v some
noncomputable def asPair (v : V) : Option (Int × Int) := withTup v fun vs => match vs with | [a, b] => withInt a fun a => withInt b fun b => some (a, b) | _ => none
noncomputable def asPairs : List V → Option (List (Int × Int)) := mapO asPair
noncomputable def pairV (p : Int × Int) : V := .tup [.int p.1, .int p.2]
noncomputable def sortV (pr : Bool) (vs : List V) : Option (List V) :=
  if vs.length < 64 then (if pr then (asPairs vs).map fun ps => (sortP ps).map pairV else (asStrs vs).map fun ss => (ss.mergeSort strLe).map .str) else none
noncomputable def rngList (a b c : Int) : List V := (List.range ((b - a + c - 1) / c).toNat).map fun (k : Nat) => .int (a + c * (k : Int))
noncomputable def O.iter : O → Option (List V)
  | .list _ vs => some vs
  | .di _ es => some (es.map fun kv => .int kv.1)
  | .ds _ es => some (es.map fun kv => .str kv.1)
  | .inst _ _ => none
noncomputable def itemsOf (σ : St) : V → Option (List V)
  | .lst vs => some vs
  | .tup vs => some vs
  | .rng a b c => if Builtin.Range.small a b c = true ∧ Builtin.Range.rangeSize a b c = (((b - a + c - 1) / c).toNat : Int) ∧ ((b - a + c - 1) / c).toNat ≤ lim then some (rngList a b c) else none
  | .ref i => onO (σ.get i) O.iter
  | _ => none
noncomputable def itersOf (hd : Bool) (σ : St) (v : V) : Option (List V) := if hd then withLst v some else itemsOf σ v
noncomputable def asg2 (k1 k2 : Nat) (v : V) (ρ : Rho) : Option Rho := withTup v fun vs => match vs with | [x, y] => some (upd (upd ρ k1 x) k2 y) | _ => none
noncomputable def O.keys : O → Option (List V)
  | .list _ vs => some vs
  | .ds _ es => some (es.map fun kv => .str kv.1)
  | _ => none
noncomputable def sortItems (σ : St) : V → Option (List V)
  | .lst vs => some vs
  | .ref i => onO (σ.get i) O.keys
  | _ => none
noncomputable def sortFrom (pr : Bool) (σ : St) (v : V) : Option (List V) := match pr with
  | true => seqOf σ v
  | false => sortItems σ v
noncomputable def O.locked : O → O
  | .list _ vs => .list true vs
  | .di _ es => .di true es
  | .ds _ es => .ds true es
  | o => o
noncomputable def lockV (σ : St) : V → St
  | .ref i => match σ.get i with | some o => σ.set i o.locked | none => σ
  | _ => σ
noncomputable def unlockV (σ₀ : St) (v : V) (σ : St) : St :=
  match v with
  | .ref i => match σ₀.get i with | some o => σ.set i o | none => σ
  | _ => σ
noncomputable def retV (o : Option V) (σ : St) : RV := o.map fun v => (.ok v, σ)
noncomputable def retB (o : Option Bool) (σ : St) : RV := o.map fun b => (.ok (.bool b), σ)
noncomputable def arg1 {α : Type} (args : List V) (k : V → Option α) : Option α := match args with | [a] => k a | _ => none
noncomputable def arg2 {α : Type} (args : List V) (k : V → V → Option α) : Option α := match args with | [a, b] => k a b | _ => none
noncomputable def O.len : O → Option Nat
  | .list _ vs => some vs.length
  | .di _ es => some es.length
  | .ds _ es => some es.length
  | .inst _ _ => none
noncomputable def lenV (σ : St) : V → Option Nat
  | .str s => some s.cps.size
  | .lst vs => some vs.length
  | .tup vs => some vs.length
  | .ref i => (σ.get i).bind O.len
  | _ => none
noncomputable def O.free : O → Option (List V)
  | .list false vs => some vs
  | _ => none
noncomputable def rangeV (args : List V) (σ : St) : RV := match args with
  | [b] => withInt b fun b => some (.ok (.rng 0 b 1), σ)
  | [a, b] => withInt a fun a => withInt b fun b => some (.ok (.rng a b 1), σ)
  | [a, b, c] => withInt a fun a => withInt b fun b => withInt c fun c => if 0 < c ∧ c < 1000000 then some (.ok (.rng a b c), σ) else none
  | _ => none
noncomputable def bfV (f : Bf) (args : List V) (σ : St) : RV :=
  match f with
  | .len => arg1 args fun v => retV ((lenV σ v).map fun (n : Nat) => .int n) σ
  | .sorted pr mt => arg1 args fun v => onO (sortFrom pr σ v) fun vs => onO (sortV pr vs) fun ws => mkL mt ws σ
  | .range => rangeV args σ
  | .min => arg2 args fun a b => withInt a fun a => withInt b fun b => some (.ok (.int (if b < a then b else a)), σ)
  | .list => arg1 args fun v => onO (seqOf σ v) fun vs => mkL true vs σ
noncomputable def O.popped (k : V) : O → Option (V × O)
  | .di false es => withInt k fun k => (lk es k).map fun v => (v, .di false (rm es k))
  | .ds false es => withStr k fun k => (lk es k).map fun v => (v, .ds false (rm es k))
  | _ => none
noncomputable def arg0 {α : Type} (args : List V) (k : Option α) : Option α := match args with | [] => k | _ => none
noncomputable def bmV (m : Bm) (o : V) (args : List V) (σ : St) : RV :=
  match m with
  | .append => withRef o fun i => arg1 args fun v => onO ((σ.get i).bind O.free) fun vs => if vs.length < lim then some (.ok .none, σ.set i (.list false (vs ++ [v]))) else none
  | .clear => withRef o fun i => arg0 args (onO ((σ.get i).bind O.free) fun _ => some (.ok .none, σ.set i (.list false [])))
  | .pop => withRef o fun i => arg1 args fun k => onO (σ.get i) fun ob => onO (ob.popped k) fun r => some (.ok r.1, σ.set i r.2)
  | .startswith => withStr o fun s => arg1 args fun p => withStr p fun p => some (.ok (.bool (p.cps.toList.isPrefixOf s.cps.toList)), σ)
  | .join => withStr o fun sep => arg1 args fun v => onO (seqOf σ v) fun vs => onO (asStrs vs) fun ss =>
      if sep.cps.size = 0 ∧ (ss.map (·.length)).sum + ss.length ≤ lim then some (.ok (.str (Str.join sep ss)), σ) else none
noncomputable def setF : List (String × V) → String → V → List (String × V)
  | [], a, v => [(a, v)]
  | (b, u) :: r, a, v => if b = a then (b, v) :: r else (b, u) :: setF r a v
noncomputable def O.setField (a : String) (v : V) : O → Option O
  | .inst c fs => if fs.length < 100 then some (.inst c (setF fs a v)) else none
  | _ => none
noncomputable def setattrV (o : V) (a : String) (v : V) (σ : St) : Option St := withRef o fun i => onO (σ.get i) fun ob => (ob.setField a v).map (σ.set i)
noncomputable def O.setItem (k v : V) : O → Option O
  | .di false es => withInt k fun k => if es.length < lim then some (.di false (st es k v)) else none
  | .ds false es => withStr k fun k => if es.length < lim then some (.ds false (st es k v)) else none
  | _ => none
noncomputable def setidxV (o k v : V) (σ : St) : Option St := withRef o fun i => onO (σ.get i) fun ob => (ob.setItem k v).map (σ.set i)
noncomputable def O.field (a : String) : O → Option V
  | .inst _ fs => lk fs a
  | _ => none
noncomputable def attrV (σ : St) (o : V) (a : String) : Option V := withRef o fun i => onO (σ.get i) (O.field a)
noncomputable def O.meth (P : Prog) (m : String) : O → Option String
  | .inst c fs => if (lk fs m).isNone && (P.fns c m).isSome then some c else none
  | _ => none
noncomputable def methV (P : Prog) (σ : St) (o : V) (m : String) : Option String := withRef o fun i => onO (σ.get i) (O.meth P m)
noncomputable def O.knd : O → Nat
  | .list _ _ => 1 | .di _ _ => 2 | .ds _ _ => 2 | .inst _ _ => 0
noncomputable def kndV (σ : St) : V → Nat
  | .ref i => (match σ.get i with | some o => o.knd | none => 0)
  | .str _ => 3
  | _ => 0
noncomputable def Bm.knd : Bm → Nat
  | .append => 1 | .clear => 1 | .pop => 2 | .startswith => 3 | .join => 3
noncomputable def bmPre (σ : St) (m : Bm) (o : V) : Bool := kndV σ o == m.knd
noncomputable def Bf.pairs : Bf → Bool
  | .sorted pr _ => pr | _ => false
noncomputable def Bf.long : Bf → Bool
  | .sorted _ _ => true | .list => true | .min => true | _ => false
noncomputable def Bm.long : Bm → Bool
  | .join => true | _ => false
noncomputable def Cl := Bool → String → String → List V → List (String × V) → St → RV
noncomputable def compL (test : V → St → RV) (elt : V → St → RV) : List V → St → Option (Res (List V) × St)
  | [], σ => some (.ok [], σ)
  | v :: r, σ => bindM (test v σ) fun t σ => onO (truthV σ t) fun t => match t with
      | true => bindM (elt v σ) fun x σ => bindM (compL test elt r σ) fun xs σ => some (.ok (x :: xs), σ)
      | false => compL test elt r σ
noncomputable def okM {α : Type} (m : Option (Res α × St)) : Option (α × St) := match m with | some (.ok a, σ) => some (a, σ) | _ => none
mutual
noncomputable def ev (P : Prog) (cl : Cl) (hd : Bool) : E → Rho → St → RV
  | .cNone, _, σ => some (.ok .none, σ)
  | .cBool b, _, σ => some (.ok (.bool b), σ)
  | .cInt i, _, σ => some (.ok (.int i), σ)
  | .cStr s, _, σ => some (.ok (.str s), σ)
  | .var k, ρ, σ => retV (ρ k) σ
  | .gint _ i, _, σ => some (.ok (.int i), σ)
  | .bin op a b, ρ, σ => bindM (ev P cl hd a ρ σ) fun x σ => bindM (ev P cl hd b ρ σ) fun y σ => retV (binV op x y) σ
  | .cmp op a b, ρ, σ => bindM (ev P cl hd a ρ σ) fun x σ => bindM (ev P cl hd b ρ σ) fun y σ => retB (cmpV σ op x y) σ
  | .chain a b c, ρ, σ => bindM (ev P cl hd a ρ σ) fun x σ => bindM (ev P cl hd b ρ σ) fun y σ => onO (cmpV σ .le x y) fun t => match t with
      | true => bindM (ev P cl hd c ρ σ) fun z σ => retB (cmpV σ .le y z) σ
      | false => some (.ok (.bool false), σ)
  | .isNone a, ρ, σ => bindM (ev P cl hd a ρ σ) fun x σ => some (.ok (.bool x.isNone), σ)
  | .notNone a, ρ, σ => bindM (ev P cl hd a ρ σ) fun x σ => some (.ok (.bool (!x.isNone)), σ)
  | .bool isAnd es, ρ, σ => evBool P cl hd isAnd es ρ σ
  | .not a, ρ, σ => bindM (ev P cl hd a ρ σ) fun x σ => retB ((truthV σ x).map (!·)) σ
  | .neg a, ρ, σ => bindM (ev P cl hd a ρ σ) fun x σ => retV (withInt x fun i => some (.int (-i))) σ
  | .fcall f args, ρ, σ => bindM (evs P cl hd args ρ σ) fun vs σ => cl hd "" f vs [] σ
  | .new c args kwn kwe, ρ, σ => bindM (evs P cl hd args ρ σ) fun vs σ => bindM (evs P cl hd kwe ρ σ) fun ks σ =>
      bindM (cl hd c "__init__" (.ref σ.n :: vs) (kwn.zip ks) (σ.new (.inst c []))) fun r σ' => if r.isNone then some (.ok (.ref σ.n), σ') else none
  | .mcall o m args kwn kwe, ρ, σ => bindM (ev P cl hd o ρ σ) fun ov σ => onO (methV P σ ov m) fun c =>
      bindM (evs P cl hd args ρ σ) fun vs σ => bindM (evs P cl hd kwe ρ σ) fun ks σ => cl hd c m (ov :: vs) (kwn.zip ks) σ
  | .bcall f args, ρ, σ => bindM (evs P cl hd args ρ σ) fun vs σ => if f.long && hd then none else bfV f vs σ
  | .bmeth m o args, ρ, σ => bindM (ev P cl hd o ρ σ) fun ov σ => if bmPre σ m ov then bindM (evs P cl hd args ρ σ) fun vs σ =>
      if m.long && hd then none else bmV m ov vs σ else none
  | .isinst a t, ρ, σ => bindM (ev P cl hd a ρ σ) fun x σ => retB (isinstV P σ x t) σ
  | .attr o a, ρ, σ => bindM (ev P cl hd o ρ σ) fun ov σ => retV (attrV σ ov a) σ
  | .idx o i, ρ, σ => bindM (ev P cl hd o ρ σ) fun ov σ => bindM (ev P cl hd i ρ σ) fun iv σ => retV (idxV σ ov iv) σ
  | .slice mt o lo hi, ρ, σ => bindM (ev P cl hd o ρ σ) fun ov σ => bindM (ev P cl hd lo ρ σ) fun lv σ => bindM (ev P cl hd hi ρ σ) fun hv σ => sliceV mt ov lv hv σ
  | .list mt es, ρ, σ => bindM (evs P cl hd es ρ σ) fun vs σ => mkList mt vs σ
  | .tup es, ρ, σ => bindM (evs P cl hd es ρ σ) fun vs σ => if vs.length ≤ lim then some (.ok (.tup vs), σ) else none
  | .dict0 s, _, σ => some (.ok (.ref σ.n), σ.new (if s then .ds false [] else .di false []))
  | .dict ks vs, ρ, σ => bindM (evs P cl hd vs ρ σ) fun xs σ => some (.ok (.ref σ.n), σ.new (.ds false (ks.zip xs)))
  | .comp mt elt k it cond, ρ, σ => if hd then none else bindM (ev P cl false it ρ σ) fun itv σ => onO (itemsOf σ itv) fun items =>
      onO (okM (compL (fun v σ => ev P cl false cond (upd ρ k v) σ) (fun v σ => ev P cl false elt (upd ρ k v) σ) items (lockV σ itv))) fun r => mkL mt r.1 (unlockV σ itv r.2)
termination_by structural e => e
noncomputable def evs (P : Prog) (cl : Cl) (hd : Bool) : List E → Rho → St → Option (Res (List V) × St)
  | [], _, σ => some (.ok [], σ)
  | e :: r, ρ, σ => bindM (ev P cl hd e ρ σ) fun x σ => bindM (evs P cl hd r ρ σ) fun xs σ => some (.ok (x :: xs), σ)
termination_by structural l => l
noncomputable def evBool (P : Prog) (cl : Cl) (hd : Bool) (isAnd : Bool) : List E → Rho → St → RV
  | [], _, _ => none
  | e :: r, ρ, σ => bindM (ev P cl hd e ρ σ) fun x σ => match r with
      | [] => some (.ok x, σ)
      | _ :: _ => onO (truthV σ x) fun t => if t = isAnd then evBool P cl hd isAnd r ρ σ else some (.ok x, σ)
termination_by structural l => l
end
inductive Fl where
  | next
  | ret (v : V)
  | exc (c : String)
abbrev RS := Option (Fl × Rho × St)
noncomputable def bindE (m : RV) (ρ : Rho) (k : V → St → RS) : RS :=
  match m with
  | none => none
  | some (.exc c, σ) => some (.exc c, ρ, σ)
  | some (.ok a, σ) => k a σ
noncomputable def okRs (m : Option (Res (List V) × St)) (k : List V → St → RS) : RS := match m with
  | some (.ok a, σ) => k a σ
  | _ => none
noncomputable def zipV (xs ys : List V) : List V := List.zipWith (fun x y => .tup [x, y]) xs ys
noncomputable def nextS (o : Option St) (ρ : Rho) : RS := o.map fun σ => (.next, ρ, σ)
noncomputable def bindS (m : RS) (k : Rho → St → RS) : RS :=
  match m with
  | some (.next, ρ, σ) => k ρ σ
  | r => r
noncomputable def loop (f : V → Rho → St → RS) : List V → Rho → St → RS
  | [], ρ, σ => some (.next, ρ, σ)
  | v :: r, ρ, σ => bindS (f v ρ σ) fun ρ σ => loop f r ρ σ
noncomputable def loopEnd (hd : Bool) (σ₁ : St) (v : V) : RS → RS
  | some (.next, ρ, σ) => if hd then none else some (.next, ρ, unlockV σ₁ v σ)
  | some (.ret x, ρ, σ) => some (.ret x, ρ, unlockV σ₁ v σ)
  | _ => none
noncomputable def unbind : RS → RS
  | some (.ret v, _, σ) => some (.ret v, fun _ => none, σ)
  | _ => none
noncomputable def catchS (m : RS) (k : String → Rho → St → RS) : RS := match m with
  | some (.exc x, ρ, σ) => k x ρ σ
  | r => r
mutual
noncomputable def exec (P : Prog) (cl : Cl) (hd dr : Bool) : S → Rho → St → RS
  | .expr e, ρ, σ => bindE (ev P cl hd e ρ σ) ρ fun _ σ => some (.next, ρ, σ)
  | .assign k e, ρ, σ => bindE (ev P cl hd e ρ σ) ρ fun v σ => some (.next, upd ρ k v, σ)
  | .setattr o a e, ρ, σ => bindE (ev P cl hd e ρ σ) ρ fun v σ => bindE (ev P cl hd o ρ σ) ρ fun ov σ => nextS (setattrV ov a v σ) ρ
  | .setidx o i e, ρ, σ => bindE (ev P cl hd e ρ σ) ρ fun v σ => bindE (ev P cl hd o ρ σ) ρ fun ov σ => bindE (ev P cl hd i ρ σ) ρ fun iv σ => nextS (setidxV ov iv v σ) ρ
  | .ite c t f, ρ, σ => bindE (ev P cl hd c ρ σ) ρ fun v σ => onO (truthV σ v) fun b => match b with | true => execs P cl hd dr t ρ σ | false => execs P cl hd dr f ρ σ
  | .for1 k it b, ρ, σ => bindE (ev P cl hd it ρ σ) ρ fun itv σ => onO (itersOf hd σ itv) fun items =>
      loopEnd hd σ itv (loop (fun v ρ σ => execs P cl hd dr b (upd ρ k v) σ) items ρ (lockV σ itv))
  | .forZ k1 k2 a b c, ρ, σ => if hd then none else okRs (evs P cl hd [a, b] ρ σ) fun vs σ => arg2 vs fun x y => onO (seqOf σ x) fun xs => onO (withLst y some) fun ys =>
      loopEnd hd σ x (loop (fun v ρ σ => onO (asg2 k1 k2 v ρ) fun ρ' => execs P cl hd dr c ρ' σ) (zipV xs ys) ρ (lockV σ x))
  | .ret e, ρ, σ => bindE (ev P cl hd e ρ σ) ρ fun v σ => some (.ret v, ρ, σ)
  | .raise c _, ρ, σ => if hd then none else if dr then some (.exc c, ρ, σ) else none
  | .tryx b c k h, ρ, σ => if hd then none else catchS (execs P cl false false b ρ σ) fun x ρ σ => if P.sub x c then unbind (execs P cl true false h (upd ρ k (.exc x)) σ) else none
termination_by structural s => s
noncomputable def execs (P : Prog) (cl : Cl) (hd dr : Bool) : List S → Rho → St → RS
  | [], ρ, σ => some (.next, ρ, σ)
  | s :: r, ρ, σ => bindS (exec P cl hd dr s ρ σ) fun ρ σ => execs P cl hd dr r ρ σ
termination_by structural l => l
end
noncomputable def bindP {κ α : Type} [DecidableEq κ] (ps : List κ) (as : List α) (kws : List (κ × α)) (ds : List (Option α)) : Option (List α) :=
  if as.length ≤ ps.length then mapO (fun pj => (as[pj.2]?).or ((lk kws pj.1).or ((ds[pj.2]?).join))) ps.zipIdx else none
noncomputable def dfls {α : Type} (m : Nat) (ds : List α) : List (Option α) := List.replicate (m - ds.length) none ++ ds.map some
noncomputable def Fn.dflts (f : Fn) : List (Option V) := dfls f.params.length f.defaults
noncomputable def rhoOf (vs : List V) : Rho := fun k => vs[k]?
noncomputable def fin : RS → RV
  | some (.ret v, _, σ') => some (.ok v, σ')
  | some (.next, _, σ') => some (.ok .none, σ')
  | some (.exc c, _, σ') => some (.exc c, σ')
  | none => none
noncomputable def kwOk (fn : Fn) (args : List V) (kws : List (String × V)) : Bool := kws.all (fun k => (fn.params.drop args.length).contains k.1) && decide (kws.map (·.1)).Nodup
noncomputable def run (P : Prog) : Nat → Cl
  | 0 => fun _ _ _ _ _ _ => none
  | n + 1 => fun hd c f args kws σ => onO (P.fns c f) fun fn => if kwOk fn args kws then onO (bindP fn.params args kws fn.dflts) fun vs => fin (execs P (run P n) hd true fn.body (rhoOf vs) σ) else none
structure Com where
  fns : List String
  cls : List String
  excs : List String
  attrs : List String
  bifs : List String
  gis : List (String × Int)
structure Ent where
  cc : String
  m : String
  fn : Fn
  vis : List (Str × Nat)
noncomputable def tblFns (T : List Ent) (c m : String) : Option Fn := (T.find? fun e => e.cc == c && e.m == m).map (·.fn)
noncomputable def progOf (T : List Ent) (sub : String → String → Bool) : Prog := ⟨tblFns T, sub⟩
end Lw
namespace Lw
open PySem PySem.W PyProof.Rows
structure Cxt where
  scope : Scope
  vis : List (Str × Nat)
  inComp : Bool
  fns : List String
  cls : List String
  excs : List String
  attrs : List String
  bifs : List String
  gis : List (String × Int)
noncomputable def tyName : Ty → String
  | .int => "int" | .bool => "bool" | .str => "str" | .tuple => "tuple" | .list => "list" | .valueError => "ValueError" | .own c => c
noncomputable def bopOf : BOp → Operator
  | .add => .Add | .sub => .Sub | .mul => .Mult | .fdiv => .FloorDiv | .mod => .Mod | .pow => .Pow
noncomputable def copOf : COp → CmpOp
  | .lt => .Lt | .le => .LtE | .gt => .Gt | .ge => .GtE | .eq => .Eq | .ne => .NotEq | .isin => .In | .notin => .NotIn
noncomputable def bfName : Bf → String
  | .len => "len" | .sorted _ _ => "sorted" | .range => "range" | .min => "min" | .list => "list"
noncomputable def bmName : Bm → String
  | .append => "append" | .clear => "clear" | .pop => "pop" | .startswith => "startswith" | .join => "join"
noncomputable def Cxt.isLocal (c : Cxt) (x : Str) : Bool := match c.scope.names.lookup x with
  | some .local => true | some .cell => true | some .free => true | _ => false
noncomputable def Cxt.isGlob (c : Cxt) (x : Str) : Bool := c.scope.names.lookup x == some .globalImplicit && !(x == ("__debug__" : Str))
noncomputable def compScope (s : Scope) : Scope := { s with names := s.names.map fun (n, k) => if k == .free then (n, .cell) else (n, k) }
noncomputable def Cxt.inner (c : Cxt) (s : Scope) (x : Str) (k : Nat) : Cxt :=
  { c with scope := compScope s, vis := (x, k) :: c.vis.filter (fun p => s.names.lookup p.1 == some .free), inComp := true }
noncomputable def Cxt.compOk (c : Cxt) (s : Scope) (x : Str) (k : Nat) : Bool :=
  !c.inComp && s.kind == .function && c.scope.kind == .function && !s.isGenerator && !s.isCoroutine &&
  s.names.lookup x == some .local && !(x == (".0" : Str)) && c.vis.all (fun p => p.2 != k) &&
  s.names.all (fun (n, kd) => (kd == .local && (n == x || n == (".0" : Str))) || (kd == .free && c.scope.names.lookup n == some .cell) || kd == .globalImplicit) &&
  decide (s.names.map (·.1)).Nodup
noncomputable def tagE : Expr → Nat
  | .Slice .. => 1
  | .Set .. => 2
  | .Starred .. => 3
  | .ListComp .. => 4
  | .SetComp .. => 4
  | .DictComp .. => 4
  | _ => 0
noncomputable def notSliceE (e : Expr) : Bool := tagE e != 1
noncomputable def notSetE (e : Expr) : Bool := tagE e != 2
noncomputable def notStar (e : Expr) : Bool := tagE e != 3
noncomputable def notComp (e : Expr) : Bool := tagE e != 4
noncomputable def notSuper : Expr → Bool
  | .Call (.Name id _) _ _ _ => !(id == ("super" : Str))
  | _ => true
noncomputable def tyOk (c : Cxt) (t : Ty) : Bool := match t with | .own k => c.cls.contains k || c.excs.contains k | _ => c.bifs.contains (tyName t)
noncomputable def isCNone : E → Bool
  | .cNone => true
  | _ => false
noncomputable def isCTrue : E → Bool
  | .cBool true => true
  | _ => false
noncomputable def isComp : E → Bool
  | .comp _ _ _ _ _ => true
  | _ => false
noncomputable def onB {α : Type} (o : Option α) (f : α → Bool) : Bool := match o with
  | some a => f a
  | none => false
noncomputable def optB {α : Type} (o : Option α) (d : Bool) (f : α → Bool) : Bool := match o with
  | some a => f a
  | none => d
noncomputable def one {α : Type} (l : List α) (f : α → Bool) : Bool := match l with
  | [a] => f a
  | _ => false
noncomputable def two {α : Type} (l : List α) (f : α → α → Bool) : Bool := match l with
  | [a, b] => f a b
  | _ => false
noncomputable def constX (x : Expr) (f : Const → Bool) : Bool := match x with
  | .Constant k _ _ => f k
  | _ => false
noncomputable def isNoneC : Const → Bool
  | .none => true
  | _ => false
noncomputable def boolC (k : Const) (f : Bool → Bool) : Bool := match k with
  | .bool b => f b
  | _ => false
noncomputable def intC (k : Const) (f : Int → Bool) : Bool := match k with
  | .int i => f i
  | _ => false
noncomputable def strC (k : Const) (f : Str → Bool) : Bool := match k with
  | .str i => f i
  | _ => false
noncomputable def nameX (x : Expr) (f : Str → Bool) : Bool := match x with
  | .Name x _ => f x
  | _ => false
noncomputable def binX (x : Expr) (f : Operator → Expr → Expr → Bool) : Bool := match x with
  | .BinOp l o r _ => f o l r
  | _ => false
noncomputable def cmpX (x : Expr) (f : Expr → List CmpOp → List Expr → Bool) : Bool := match x with
  | .Compare l os rs _ => f l os rs
  | _ => false
noncomputable def boolX (x : Expr) (f : BoolOp → List Expr → Bool) : Bool := match x with
  | .BoolOp o vs _ => f o vs
  | _ => false
noncomputable def unX (x : Expr) (f : UnaryOp → Expr → Bool) : Bool := match x with
  | .UnaryOp o v _ => f o v
  | _ => false
noncomputable def callX (x : Expr) (f : Expr → List Expr → List Keyword → Pos → Bool) : Bool := match x with
  | .Call g as ks p => f g as ks p
  | _ => false
noncomputable def attrX (x : Expr) (f : Expr → Str → Pos → Bool) : Bool := match x with
  | .Attribute o y p => f o y p
  | _ => false
noncomputable def subX (x : Expr) (f : Expr → Expr → Bool) : Bool := match x with
  | .Subscript o i _ => f o i
  | _ => false
noncomputable def sliceX (x : Expr) (f : Option Expr → Option Expr → Option Expr → Bool) : Bool := match x with
  | .Slice a b d _ => f a b d
  | _ => false
noncomputable def listX (x : Expr) (f : List Expr → Bool) : Bool := match x with
  | .List vs _ => f vs
  | _ => false
noncomputable def tupX (x : Expr) (f : List Expr → Bool) : Bool := match x with
  | .Tuple vs _ _ => f vs
  | _ => false
noncomputable def dictX (x : Expr) (f : List (Option Expr) → List Expr → Bool) : Bool := match x with
  | .Dict ks vs _ => f ks vs
  | _ => false
noncomputable def compX (x : Expr) (f : Expr → List Comprehension → Scope → Bool) : Bool := match x with
  | .ListComp e gs s _ => f e gs s
  | _ => false
noncomputable def okKeys : List Str → List (Option Expr) → Bool
  | [], [] => true
  | k :: ks, e :: r => onB e (fun e => constX e fun c => strC c fun s => s == k) && okKeys ks r
  | _, _ => false
mutual
noncomputable def okE (c : Cxt) : E → Expr → Bool
  | .cNone, x => constX x isNoneC
  | .cBool b, x => constX x fun k => boolC k fun b' => b' == b
  | .cInt i, x => constX x fun k => intC k fun b' => b' == i
  | .cStr s, x => constX x fun k => strC k fun b' => b' == s && sOk s
  | .var k, x => nameX x fun y => c.vis.lookup y == some k && (c.isLocal y && (!(y == ("__debug__" : Str)) && !(y == ("__classdict__" : Str))))
  | .gint g i, x => nameX x fun y => y == Str.ofString g && (c.isGlob y && c.gis.contains (g, i))
  | .bin op a b, x => binX x fun o l r => o == bopOf op && (okE c a l && okE c b r)
  | .cmp op a b, x => cmpX x fun l os rs => one os fun o => one rs fun r => o == copOf op && (notSetE r && (okE c a l && okE c b r))
  | .chain a b d, x => cmpX x fun l os rs => two os fun o1 o2 => two rs fun r1 r2 => o1 == .LtE && (o2 == .LtE && (notSetE r2 && (okE c a l && (okE c b r1 && okE c d r2))))
  | .isNone a, x => cmpX x fun l os rs => one os fun o => one rs fun r => o == .Is && (constX r isNoneC && okE c a l)
  | .notNone a, x => cmpX x fun l os rs => one os fun o => one rs fun r => o == .IsNot && (constX r isNoneC && okE c a l)
  | .bool isAnd es, x => boolX x fun o vs => (o == (if isAnd then .And else .Or)) && okEs c es vs
  | .not a, x => unX x fun o v => o == .Not && okE c a v
  | .neg a, x => unX x fun o v => o == .USub && okE c a v
  | .fcall f args, x => callX x fun g as ks _ => nameX g fun y => y == Str.ofString f && (c.isGlob (Str.ofString f) && (c.fns.contains f && (ks.isEmpty && okEs c args as)))
  | .new k args kwn kwe, x => callX x fun g as ks _ => nameX g fun y => y == Str.ofString k && (c.isGlob (Str.ofString k) && (c.cls.contains k && (okEs c args as && okKs c kwn kwe ks)))
  | .mcall o m args kwn kwe, x => callX x fun g as ks p => attrX g fun u y q => y == Str.ofString m && (notSuper u && (q.endLine == p.line && (decide (as.length < 10) && (decide (ks.length < 5) && (okE c o u && (okEs c args as && okKs c kwn kwe ks))))))
  | .bcall f args, x => callX x fun g as ks _ => nameX g fun y => y == Str.ofString (bfName f) && (c.isGlob (Str.ofString (bfName f)) && (c.bifs.contains (bfName f) && ((!f.pairs || c.bifs.contains "sorted2") && (ks.isEmpty && okEs c args as))))
  | .bmeth m o args, x => callX x fun g as ks p => attrX g fun u y q => y == Str.ofString (bmName m) && (notSuper u && (q.endLine == p.line && (decide (as.length < 10) && (ks.isEmpty && (okE c o u && okEs c args as)))))
  | .isinst a t, x => callX x fun g as ks _ => nameX g fun y => two as fun v1 v2 => nameX v2 fun z => y == ("isinstance" : Str) && (c.isGlob ("isinstance" : Str) && (c.bifs.contains "isinstance" && (notStar v1 && (z == Str.ofString (tyName t) && (c.isGlob (Str.ofString (tyName t)) && (tyOk c t && (ks.isEmpty && okE c a v1)))))))
  | .attr o a, x => attrX x fun u y _ => y == Str.ofString a && (c.attrs.contains a && (notSuper u && okE c o u))
  | .idx o i, x => subX x fun l r => notSliceE r && (okE c o l && okE c i r)
  | .slice _ o lo hi, x => subX x fun l r => sliceX r fun a b d => d.isNone && (okE c o l && (optB a (isCNone lo) (fun e => okE c lo e) && optB b (isCNone hi) fun e => okE c hi e))
  | .list _ es, x => listX x fun vs => okEs c es vs
  | .tup es, x => tupX x fun vs => okEs c es vs
  | .dict0 _, x => dictX x fun ks vs => ks.isEmpty && vs.isEmpty
  | .dict ks vs, x => dictX x fun ke ve => !ks.isEmpty && (decide (ks.length < 10) && (ve.length == ks.length && (okKeys ks ke && (ks.all sOk && (decide ks.Nodup && okEs c vs ve)))))
  | .comp _ elt k it cond, x => compX x fun e gs s => one gs fun g => nameX g.target fun y => g.is_async == 0 && (notSetE g.iter && (c.compOk s y k && (okE c it g.iter && (okE (c.inner s y k) elt e &&
      ((g.ifs.isEmpty && isCTrue cond) || one g.ifs fun e => okE (c.inner s y k) cond e)))))
termination_by structural e => e
noncomputable def okEs (c : Cxt) : List E → List Expr → Bool
  | [], [] => true
  | a :: r, e :: es => notStar e && (okE c a e && okEs c r es)
  | _, _ => false
termination_by structural l => l
noncomputable def okKs (c : Cxt) : List String → List E → List Keyword → Bool
  | [], [], [] => true
  | n :: ns, a :: r, k :: ks => (k.arg == some (Str.ofString n)) && (okE c a k.value && okKs c ns r ks)
  | _, _, _ => false
termination_by structural _ l => l
end
noncomputable def exprX (s : Stmt) (f : Expr → Bool) : Bool := match s with
  | .Expr v _ => f v
  | _ => false
noncomputable def assignX (s : Stmt) (f : List Expr → Expr → Bool) : Bool := match s with
  | .Assign ts v _ => f ts v
  | _ => false
noncomputable def ifX (s : Stmt) (f : Expr → List Stmt → List Stmt → Bool) : Bool := match s with
  | .If e a b _ => f e a b
  | _ => false
noncomputable def forX (s : Stmt) (f : Expr → Expr → List Stmt → List Stmt → Bool) : Bool := match s with
  | .For t i b e _ => f t i b e
  | _ => false
noncomputable def retX (s : Stmt) (f : Option Expr → Bool) : Bool := match s with
  | .Return v _ => f v
  | _ => false
noncomputable def Cxt.tgt (c : Cxt) (x : Str) (k : Nat) : Bool := c.vis.lookup x == some k && (c.scope.names.lookup x == some .local || c.scope.names.lookup x == some .cell)
noncomputable def Cxt.tgtL (c : Cxt) (x : Str) (k : Nat) : Bool := c.vis.lookup x == some k && c.scope.names.lookup x == some .local
noncomputable def raiseX (s : Stmt) (f : Option Expr → Option Expr → Bool) : Bool := match s with
  | .Raise e d _ => f e d
  | _ => false
noncomputable def tryX (s : Stmt) (f : List Stmt → List ExceptHandler → List Stmt → List Stmt → Bool) : Bool := match s with
  | .Try b hs e d _ => f b hs e d
  | _ => false
noncomputable def handX (h : ExceptHandler) (f : Option Expr → Option Str → List Stmt → Bool) : Bool := match h with
  | .ExceptHandler t n b _ => f t n b
mutual
noncomputable def okS (c : Cxt) : S → Stmt → Bool
  | .expr e, s => exprX s fun v => notComp v && okE c e v
  | .assign k e, s => assignX s fun ts v => one ts fun g => nameX g fun x => c.tgt x k && ((notComp v || isComp e) && okE c e v)
  | .setattr o a e, s => assignX s fun ts v => one ts fun g => attrX g fun u y _ => y == Str.ofString a && (c.attrs.contains a && (notComp v && (okE c o u && okE c e v)))
  | .setidx o i e, s => assignX s fun ts v => one ts fun g => subX g fun l r => notComp v && (okE c o l && (okE c i r && okE c e v))
  | .ite t a b, s => ifX s fun te as bs => okE c t te && (okSs c a as && okSs c b bs)
  | .for1 k it b, s => forX s fun t i bs es => nameX t fun x => c.tgt x k && (notSetE i && (es.isEmpty && (okE c it i && okSs c b bs)))
  | .forZ k1 k2 a b d, s => forX s fun t i bs es => tupX t fun ts => two ts fun g1 g2 => nameX g1 fun x => nameX g2 fun y => callX i fun g as ks _ => nameX g fun z => z == Str.ofString "zip" && (c.tgtL x k1 && (c.tgtL y k2 && (c.isGlob (Str.ofString "zip") && (c.bifs.contains "zip" && (ks.isEmpty && (es.isEmpty && (okEs c [a, b] as && okSs c d bs)))))))
  | .ret e, s => retX s fun v => onB v fun v => okE c e v
  | .raise e m, s => raiseX s fun x d => d.isNone && onB x fun x => callX x fun g as ks _ => nameX g fun y => one as fun a => constX a fun k => strC k fun u => y == Str.ofString e && (c.isGlob (Str.ofString e) && (c.excs.contains e && (ks.isEmpty && (u == m && sOk m))))
  | .tryx b e k h, s => tryX s fun bs hs es ds => es.isEmpty && (ds.isEmpty && one hs fun hd => handX hd fun t n hb => onB t fun t => onB n fun n => nameX t fun y => y == Str.ofString e && (c.isGlob (Str.ofString e) && (c.excs.contains e && (c.tgtL n k && (!hb.isEmpty && (okSs c b bs && okSs c h hb))))))
termination_by structural s => s
noncomputable def okSs (c : Cxt) : List S → List Stmt → Bool
  | [], [] => true
  | a :: r, s :: ss => okS c a s && okSs c r ss
  | _, _ => false
termination_by structural l => l
end
end Lw
namespace Lw
open PySem PySem.W PyProof.Rows
structure Gl where
  prog : Program
  ω : World
  K : Frag
  mg : Str → Option Value
  mb : Str → Option Value
  P : Prog
  com : Com
abbrev Gl.M (G : Gl) : Model := model G.prog G.ω
inductive Own where
  | fix (o : Obj)
  | own (o : Obj)
  | fr (o : Obj)
  | obj (i : Nat)
  | lk (i : Nat) (o : Obj)
structure Wd where
  m : Addr → Option Own
  φ : List (Addr × Addr)
structure Wd.Le (a b : Wd) : Prop where
  m : ∀ x o, a.m x = some o → b.m x = some o
  φ : a.φ <+: b.φ
structure Wd.Sub (a b : Wd) : Prop where
  m : ∀ x o, a.m x = some (.fix o) → b.m x = some (.fix o)
  φ : a.φ <+: b.φ
theorem Wd.Le.refl (a : Wd) : a.Le a := ⟨fun _ _ h => h, List.prefix_refl _⟩
theorem Wd.Le.trans {a b c : Wd} (h : a.Le b) (k : b.Le c) : a.Le c := ⟨fun x o e => k.m x o (h.m x o e), h.φ.trans k.φ⟩
theorem Wd.Le.sub {a b : Wd} (h : a.Le b) : a.Sub b := ⟨fun x o e => h.m x _ e, h.φ⟩
theorem prefix_get {α : Type} {a b : List α} (h : a <+: b) {i : Nat} {p : α} (e : a[i]? = some p) : b[i]? = some p := by
  obtain ⟨t, ht⟩ := h
  rw [← ht, List.getElem?_append_left (List.getElem?_eq_some_iff.mp e).1]
  exact e
noncomputable def clsAt (K : Frag) (c : String) : Option Addr := match nsIn K mainGlobals (Str.ofString c) with
  | some (some (.ref a)) => some a
  | _ => none
noncomputable def excNew : String := "ValueError.__new__"
noncomputable def excBm : List Value := [.type "ValueError", .type "Exception", .type "BaseException", .type "object"]
noncomputable def lacks (K : Frag) (N : Addr) (x : Str) : Bool := match K.lookup N with
  | some ⟨_, _, .dict es _, _⟩ => es.all (fun e => match e.key with | .str _ _ => true | _ => false) && (nsFind es x).isNone
  | _ => false
noncomputable def excTl (K : Frag) : List Value → Bool
  | .ref A :: r => (match clsIn K A with | some cd => lacks K cd.ns "__init__" | none => false) && decide (r = excBm)
  | l => decide (l = excBm)
noncomputable def excObj (K : Frag) (C : Addr) : Bool := match K.lookup C with
  | some ⟨c, _, .cls cd, sl⟩ => decide (c = .type "type") && (decide (cd.mro.head? = some (.ref C)) && (!cd.hasDel && (decide (sl.size = 6) && (decide (sl[4]? = some (some (.builtin excNew))) && (lacks K cd.ns "__init__" && excTl K cd.mro.tail)))))
  | _ => false
noncomputable def excAtt (K : Frag) (C : Addr) : Bool :=
  findIn K (.ref C) "__getattribute__" == some (some (.builtin "BaseException.__getattribute__")) && (findIn K (.ref C) "__getattr__" == some none && (findIn K (.ref C) "__class__" == some (some (.builtin "object.__class__")) &&
  (specialIn K (.builtin "object.__class__") "__get__" == some (some (.builtin "getset_descriptor.__get__")) && (takesIn K (.builtin "object.__class__") == some true && (mroIn K C (.type "object") == some true && mroIn K C (.type "BaseException") == some true)))))
noncomputable def excOk (K : Frag) (sub : String → String → Bool) (ds : List String) (x : String) : Bool := match clsAt K x with
  | some C => excObj K C && (excAtt K C && (kitOne K (.ref C) (.type "ValueError") == some true && ds.all fun d => match clsAt K d with | some D => kitOne K (.ref C) (.ref D) == some (sub x d) && mroIn K C (.ref D) == some (sub x d) | none => false))
  | none => false
noncomputable def RangeObj (o : Obj) (a b c : Int) : Prop := ∃ t u v, o = { cls := .type "range", data := .fields #[.int a t, .int b u, .int c v] }
noncomputable def ExcCls (G : Gl) (x : String) (C : Addr) : Prop := x ∈ G.com.excs ∧ clsAt G.K x = some C
inductive All2 {α β : Type} (R : α → β → Prop) : List α → List β → Prop
  | nil : All2 R [] []
  | cons {a : α} {b : β} {as : List α} {bs : List β} : R a b → All2 R as bs → All2 R (a :: as) (b :: bs)
section
variable {α β : Type} {R R' : α → β → Prop} {as as' : List α} {bs bs' : List β}
theorem All2.mono (h : All2 R as bs) (k : ∀ a b, R a b → R' a b) : All2 R' as bs := by
  induction h with
  | nil => exact .nil
  | cons a _ ih => exact .cons (k _ _ a) ih
theorem All2.length (h : All2 R as bs) : as.length = bs.length := by
  induction h with
  | nil => rfl
  | cons _ _ ih => exact congrArg (· + 1) ih
theorem All2.get (h : All2 R as bs) : ∀ {i : Nat} {a : α}, as[i]? = some a → ∃ b, bs[i]? = some b ∧ R a b := by
  induction h with
  | nil => exact fun h => nomatch h
  | cons r _ ih =>
    intro i
    cases i with
    | zero => exact fun h => ⟨_, rfl, Option.some.inj h ▸ r⟩
    | succ i => exact fun h => ih (i := i) h
theorem All2.append (h : All2 R as bs) (k : All2 R as' bs') : All2 R (as ++ as') (bs ++ bs') := by
  induction h with
  | nil => exact k
  | cons a _ ih => exact .cons a ih
theorem All2.take (h : All2 R as bs) : ∀ n, All2 R (as.take n) (bs.take n) := by
  induction h with
  | nil => intro n; cases n <;> exact .nil
  | cons a _ ih => intro n; cases n with
    | zero => exact .nil
    | succ n => exact .cons a (ih n)
theorem All2.drop (h : All2 R as bs) : ∀ n, All2 R (as.drop n) (bs.drop n) := by
  induction h with
  | nil => intro n; cases n <;> exact .nil
  | cons a r ih => intro n; cases n with
    | zero => exact .cons a r
    | succ n => exact ih n
end
inductive VR (G : Gl) (w : Wd) : V → Value → Prop
  | none : VR G w .none .none
  | bool (b : Bool) : VR G w (.bool b) (.bool b)
  | int (i : Int) (t : Tok) : VR G w (.int i) (.int i t)
  | str (s : Str) (t : Tok) : sOk s = true → VR G w (.str s) (.str s t)
  | tup {vs : List V} {a : Addr} {o : Obj} {xs : Array Value} {n : Nat} : w.m a = some (.fix o) → o.cls = .type "tuple" → o.data = .seq xs n → All2 (VR G w) vs xs.toList → vs.length ≤ lim → VR G w (.tup vs) (.ref a)
  | lst {vs : List V} {a : Addr} {o : Obj} {xs : Array Value} {n : Nat} : w.m a = some (.fix o) → o.cls = .type "list" → o.data = .seq xs n → All2 (VR G w) vs xs.toList → vs.length ≤ lim → VR G w (.lst vs) (.ref a)
  | rng {x y z : Int} {a : Addr} {o : Obj} : w.m a = some (.fix o) → RangeObj o x y z → VR G w (.rng x y z) (.ref a)
  | ref {i : Nat} {p : Addr × Addr} : w.φ[i]? = some p → VR G w (.ref i) (.ref p.1)
  | exc {c : String} {a C : Addr} {o : Obj} : w.m a = some (.fix o) → o.cls = .ref C → notCls o = true → ExcCls G c C → VR G w (.exc c) (.ref a)
abbrev VRs (G : Gl) (w : Wd) : List V → List Value → Prop := All2 (VR G w)
theorem VR.mono {G : Gl} {w w' : Wd} (h : w.Sub w') {v : V} {x : Value} (hv : VR G w v x) : VR G w' v x :=
  VR.rec (motive_1 := fun v x _ => VR G w' v x) (motive_2 := fun v x _ => VRs G w' v x) .none (fun b => .bool b) (fun i t => .int i t) (fun s t k => .str s t k) (fun e c d _ l ih => .tup (h.m _ _ e) c d ih l) (fun e c d _ l ih => .lst (h.m _ _ e) c d ih l) (fun e r => .rng (h.m _ _ e) r) (fun e => .ref (prefix_get h.φ e)) (fun e c n k => .exc (h.m _ _ e) c n k) .nil (fun _ _ a b => .cons a b) hv
theorem VRs.mono {G : Gl} {w w' : Wd} (h : w.Sub w') {v : List V} {x : List Value} (hv : VRs G w v x) : VRs G w' v x := All2.mono hv fun _ _ q => q.mono h
abbrev ER {κ : Type} (G : Gl) (w : Wd) : List (κ × V) → List (κ × Value) → Prop := All2 fun e f => f.1 = e.1 ∧ VR G w e.2 f.2
abbrev FsR (G : Gl) (w : Wd) : List (String × V) → List DictEntry → Prop := All2 fun e f => ∃ t x, f = ⟨PyData.keyHash G.ω.params (Str.ofString e.1), .str (Str.ofString e.1) t, x⟩ ∧ VR G w e.2 x
theorem ER.mono {κ : Type} {G : Gl} {w w' : Wd} (h : w.Sub w') {es : List (κ × V)} {kvs : List (κ × Value)} (r : ER G w es kvs) : ER G w' es kvs := All2.mono r fun _ _ q => ⟨q.1, q.2.mono h⟩
theorem FsR.mono {G : Gl} {w w' : Wd} (h : w.Sub w') {fs : List (String × V)} {es : List DictEntry} (r : FsR G w fs es) : FsR G w' fs es := All2.mono r fun _ _ ⟨t, x, e, q⟩ => ⟨t, x, e, q.mono h⟩
theorem no {α : Type} {z : α} {C : Prop} (h : none = some z) : C := by cases h
theorem noB {C : Prop} (h : false = true) : C := by cases h
abbrev listObj (ys : Array Value) (e : Nat) : Obj := ⟨.type "list", none, .seq ys e, #[]⟩
noncomputable def lkOwn (lk : Bool) (i : Nat) (o : Obj) : Own := if lk then .lk i o else .obj i
noncomputable def DRel {κ : Type} [DecidableEq κ] (G : Gl) (w : Wd) (h : Heap) (i : Nat) (p : Addr × Addr) (knd : PySem.KeyKind G.prog G.ω κ) (lk : Bool) (es : List (κ × V)) : Prop :=
  p.2 = p.1 ∧ ∃ o kvs, h.get? p.1 = some o ∧ w.m p.1 = some (lkOwn lk i o) ∧ o.IsDictOf knd kvs ∧ ER G w es kvs ∧ es.length ≤ lim ∧ p.1 ≠ sysModules
noncomputable def ORel (G : Gl) (w : Wd) (h : Heap) (i : Nat) (p : Addr × Addr) : O → Prop
  | .list lk vs => p.2 = p.1 ∧ ∃ xs n, h.get? p.1 = some (listObj xs n) ∧ w.m p.1 = some (lkOwn lk i (listObj xs n)) ∧ VRs G w vs xs.toList ∧ vs.length ≤ lim
  | .di lk es => DRel G w h i p (intKind G.prog G.ω) lk es
  | .ds lk es => DRel G w h i p (strKind G.prog G.ω) lk es ∧ ∀ kv ∈ es, sOk kv.1 = true
  | .inst cn fs => w.m p.2 = some (.obj i) ∧ ∃ C es n, h.get? p.1 = some (instObj C p.2) ∧ w.m p.1 = some (.obj i) ∧ h.get? p.2 = some (dictOf es n) ∧ p.1 ≠ p.2 ∧ cn ∈ G.com.cls ∧ clsAt G.K cn = some C ∧ FsR G w fs es
noncomputable def OwnOk (h : Heap) (x : Addr) : Own → Prop
  | .fix o => h.get? x = some o
  | .own o => h.get? x = some o
  | .fr o => (∀ vs, o.data ≠ .fields vs) ∧ ∃ sl, h.get? x = some { o with slots := sl }
  | .obj _ => ∃ o, h.get? x = some o
  | .lk _ o => h.get? x = some o
structure SR (G : Gl) (w : Wd) (σ : St) (h : Heap) : Prop where
  m : ∀ x o, w.m x = some o → OwnOk h x o
  n : σ.n = w.φ.length
  obj : ∀ (i : Nat) (o : O), σ.get i = some o → ∃ p, w.φ[i]? = some p ∧ ORel G w h i p o
noncomputable def Wd.set (w : Wd) (a : Addr) (o : Own) : Wd := { w with m := fun x => if x = a then some o else w.m x }
noncomputable def Wd.new (w : Wd) (p : Addr × Addr) : Wd := { m := fun x => if x = p.1 ∨ x = p.2 then some (.obj w.φ.length) else w.m x, φ := w.φ ++ [p] }
section
variable {G : Gl} {w w' : Wd} {σ : St} {h h' : Heap} {p : Addr × Addr} {o : O} {i : Nat} {x : Own} {a : Addr}
theorem OwnOk.keep {o : Own} (r : OwnOk h a o) (k : ∀ y, h.get? a = some y → h'.get? a = some y) : OwnOk h' a o := by
  cases o with
  | fix o => exact k _ r
  | own o => exact k _ r
  | fr o => obtain ⟨q, sl, e⟩ := r; exact ⟨q, sl, k _ e⟩
  | obj i => obtain ⟨o, e⟩ := r; exact ⟨o, k _ e⟩
  | lk i o => exact k _ r
theorem OwnOk.some (r : OwnOk h a x) : ∃ o, h.get? a = some o := by
  cases x with
  | fix o => exact ⟨_, r⟩
  | own o => exact ⟨_, r⟩
  | fr o => obtain ⟨_, sl, e⟩ := r; exact ⟨_, e⟩
  | obj i => exact r
  | lk i o => exact ⟨_, r⟩
theorem lkOwn_ne {lk : Bool} {i j : Nat} {o : Obj} (hij : i ≠ j) : lkOwn lk i o ≠ .obj j := by
  cases lk <;> intro e <;> cases e
  exact hij rfl
theorem DRel.held {κ : Type} [DecidableEq κ] {knd : PySem.KeyKind G.prog G.ω κ} {lk : Bool} {es : List (κ × V)} (r : DRel G w h i p knd lk es) : (∃ lk ob, w.m p.1 = some (lkOwn lk i ob)) ∧ ∃ lk ob, w.m p.2 = some (lkOwn lk i ob) := by
  obtain ⟨e, xs, n, _, b, _⟩ := r; rw [e]; exact ⟨⟨_, _, b⟩, _, _, b⟩
theorem DRel.keep {κ : Type} [DecidableEq κ] {knd : PySem.KeyKind G.prog G.ω κ} {lk : Bool} {es : List (κ × V)} (hw : w.Sub w') (h1 : w'.m p.1 = w.m p.1) (k : ∀ b y, (b = p.1 ∨ b = p.2) → h.get? b = some y → h'.get? b = some y) (r : DRel G w h i p knd lk es) : DRel G w' h' i p knd lk es := by
  obtain ⟨e, ob, kvs, a, b, c, d, f⟩ := r
  exact ⟨e, ob, kvs, k _ _ (.inl rfl) a, h1.trans b, c, d.mono hw, f⟩
theorem ORel.held (r : ORel G w h i p o) : (∃ lk ob, w.m p.1 = some (lkOwn lk i ob)) ∧ ∃ lk ob, w.m p.2 = some (lkOwn lk i ob) := by
  cases o with
  | list lk vs => obtain ⟨e, xs, n, _, b, _⟩ := r; rw [e]; exact ⟨⟨_, _, b⟩, _, _, b⟩
  | di lk es => exact r.held
  | ds lk es => exact r.1.held
  | inst cn fs => obtain ⟨e, C, es, n, _, b, _⟩ := r; exact ⟨⟨false, dictOf [] 0, b⟩, false, dictOf [] 0, e⟩
theorem ORel.keep (hw : w.Sub w') (h1 : w'.m p.1 = w.m p.1) (h2 : w'.m p.2 = w.m p.2) (k : ∀ b y, (b = p.1 ∨ b = p.2) → h.get? b = some y → h'.get? b = some y) (r : ORel G w h i p o) : ORel G w' h' i p o := by
  cases o with
  | list lk vs =>
    obtain ⟨e, xs, n, a, b, c, d⟩ := r
    exact ⟨e, xs, n, k _ _ (.inl rfl) a, h1.trans b, c.mono hw, d⟩
  | di lk es => exact r.keep hw h1 k
  | ds lk es => exact ⟨r.1.keep hw h1 k, r.2⟩
  | inst cn fs =>
    obtain ⟨e, C, es, n, a, b, d, f, g, x, y⟩ := r
    exact ⟨h2.trans e, C, es, n, k _ _ (.inl rfl) a, h1.trans b, k _ _ (.inr rfl) d, f, g, x, y.mono hw⟩
theorem SR.keeps (S : SR G w σ h) (k : ∀ b o, h.get? b = some o → h'.get? b = some o) : SR G w σ h' :=
  ⟨fun x o e => (S.m x o e).keep fun _ q => k _ _ q, S.n, fun i o e => let ⟨p, a, r⟩ := S.obj i o e; ⟨p, a, r.keep (Wd.Le.refl _).sub rfl rfl fun _ _ _ q => k _ _ q⟩⟩
theorem SR.fresh (S : SR G w σ h) (hn : h.get? a = none) : w.m a = none := by
  cases e : w.m a with
  | none => rfl
  | some o => obtain ⟨y, q⟩ := (S.m _ _ e).some; rw [hn] at q; cases q
theorem Wd.set_at : (w.set a x).m a = some x := if_pos rfl
theorem Wd.set_ne {b : Addr} (hb : b ≠ a) : (w.set a x).m b = w.m b := if_neg hb
theorem Wd.le_set (hn : w.m a = none) : w.Le (w.set a x) := ⟨fun b o e => (Wd.set_ne fun q => by rw [q, hn] at e; cases e).trans e, List.prefix_refl _⟩
noncomputable def Wd.Unheld (w : Wd) (a : Addr) : Prop := ∀ lk i ob, w.m a ≠ some (lkOwn lk i ob)
theorem Wd.unheld_none (h : w.m a = none) : w.Unheld a := fun lk i ob e => by rw [h] at e; cases e
theorem Wd.unheld_own {o : Obj} (h : w.m a = some (.own o)) : w.Unheld a := fun lk i ob e => by rw [h] at e; cases lk <;> cases e
theorem Wd.unheld_fr {o : Obj} (h : w.m a = some (.fr o)) : w.Unheld a := fun lk i ob e => by rw [h] at e; cases lk <;> cases e
theorem ORel.apart (r : ORel G w h i p o) (hn : w.Unheld a) : p.1 ≠ a ∧ p.2 ≠ a :=
  let ⟨⟨l1, o1, e1⟩, l2, o2, e2⟩ := r.held
  ⟨fun q => hn l1 i o1 (q ▸ e1), fun q => hn l2 i o2 (q ▸ e2)⟩
theorem SR.set (S : SR G w σ h) (hs : w.Sub (w.set a x)) (hn : w.Unheld a) (k : ∀ b y, b ≠ a → h.get? b = some y → h'.get? b = some y) (hx : OwnOk h' a x) : SR G (w.set a x) σ h' := by
  refine ⟨fun b o e => ?_, S.n, fun i o e => ?_⟩
  · by_cases q : b = a
    · subst q; rw [Wd.set_at] at e; cases e; exact hx
    · rw [Wd.set_ne q] at e; exact (S.m b o e).keep fun _ z => k _ _ q z
  · obtain ⟨p, z, r⟩ := S.obj i o e
    obtain ⟨n1, n2⟩ := r.apart hn
    exact ⟨p, z, r.keep hs (Wd.set_ne n1) (Wd.set_ne n2) fun b y hb => k b y (by rcases hb with rfl | rfl; exact n1; exact n2)⟩
theorem SR.put (S : SR G w σ h) (hn : h.get? a = none) (k : ∀ b y, h.get? b = some y → h'.get? b = some y) (hx : OwnOk h' a x) : SR G (w.set a x) σ h' :=
  S.set (Wd.le_set (S.fresh hn)).sub (Wd.unheld_none (S.fresh hn)) (fun b y _ => k b y) hx
theorem sub_set {o : Own} (hs : w.m a = some o) (hf : ∀ z, o ≠ .fix z) : w.Sub (w.set a x) := ⟨fun b z e => (Wd.set_ne fun q => by
  subst q; rw [e] at hs; exact hf z (Option.some.inj hs).symm).trans e, List.prefix_refl _⟩
theorem SR.turn {o : Obj} (S : SR G w σ h) (hs : w.m a = some (.own o)) (k : ∀ b y, b ≠ a → h.get? b = some y → h'.get? b = some y) (hx : OwnOk h' a x) : SR G (w.set a x) σ h' :=
  S.set (sub_set hs fun _ q => nomatch q) (Wd.unheld_own hs) k hx
theorem SR.turnF {o : Obj} (S : SR G w σ h) (hs : w.m a = some (.fr o)) (k : ∀ b y, b ≠ a → h.get? b = some y → h'.get? b = some y) (hx : OwnOk h' a x) : SR G (w.set a x) σ h' :=
  S.set (sub_set hs fun _ q => nomatch q) (Wd.unheld_fr hs) k hx
theorem Wd.new_at : (w.new p).φ[w.φ.length]? = some p := by
  show (w.φ ++ [p])[w.φ.length]? = some p
  rw [List.getElem?_append_right (Nat.le_refl _), Nat.sub_self]; rfl
theorem Wd.new_1 : (w.new p).m p.1 = some (.obj w.φ.length) := if_pos (.inl rfl)
theorem Wd.new_2 : (w.new p).m p.2 = some (.obj w.φ.length) := if_pos (.inr rfl)
theorem Wd.new_ne {b : Addr} (h1 : b ≠ p.1) (h2 : b ≠ p.2) : (w.new p).m b = w.m b := if_neg fun q => q.elim h1 h2
theorem Wd.le_new {w₀ : Wd} (le : w₀.Le w) (h1 : w₀.m p.1 = none) (h2 : w₀.m p.2 = none) : w₀.Le (w.new p) :=
  ⟨fun b o e => (Wd.new_ne (fun q => by rw [q, h1] at e; cases e) (fun q => by rw [q, h2] at e; cases e)).trans (le.m b o e), le.φ.trans (List.prefix_append _ _)⟩
theorem SR.adopt (S : SR G w σ h) (hs : w.Sub (w.new p)) (n1 : w.Unheld p.1) (n2 : w.Unheld p.2) (k : ∀ b y, b ≠ p.1 → b ≠ p.2 → h.get? b = some y → h'.get? b = some y) (e1 : ∃ o, h'.get? p.1 = some o) (e2 : ∃ o, h'.get? p.2 = some o)
    (r : ORel G (w.new p) h' w.φ.length p o) : SR G (w.new p) (σ.new o) h' := by
  refine ⟨fun b q e => ?_, ?_, fun j q e => ?_⟩
  · by_cases z1 : b = p.1
    · subst z1; rw [Wd.new_1] at e; cases e; exact e1
    · by_cases z2 : b = p.2
      · subst z2; rw [Wd.new_2] at e; cases e; exact e2
      · rw [Wd.new_ne z1 z2] at e; exact (S.m b q e).keep fun _ y => k _ _ z1 z2 y
  · show σ.n + 1 = (w.φ ++ [p]).length
    rw [List.length_append, S.n]; rfl
  · by_cases z : j = σ.n
    · have e' : some o = some q := (if_pos z).symm.trans e
      cases e'
      rw [z, S.n]
      exact ⟨p, Wd.new_at, r⟩
    · obtain ⟨q', x, b⟩ := S.obj j q ((if_neg z).symm.trans e)
      obtain ⟨a1, a2⟩ := b.apart n1
      obtain ⟨b1, b2⟩ := b.apart n2
      exact ⟨q', prefix_get hs.φ x, b.keep hs (Wd.new_ne a1 b1) (Wd.new_ne a2 b2) fun b' y hb => k b' y (by rcases hb with rfl | rfl; exact a1; exact a2) (by rcases hb with rfl | rfl; exact b1; exact b2)⟩
theorem Wd.new_lt (S : SR G w σ h) (h1 : h.get? p.1 = none) (h2 : h.get? p.2 = none) : w.Le (w.new p) := Wd.le_new (.refl _) (S.fresh h1) (S.fresh h2)
theorem SR.alloc (S : SR G w σ h) (h1 : h.get? p.1 = none) (h2 : h.get? p.2 = none) (k : ∀ b y, h.get? b = some y → h'.get? b = some y) (e1 : ∃ o, h'.get? p.1 = some o) (e2 : ∃ o, h'.get? p.2 = some o)
    (r : ORel G (w.new p) h' w.φ.length p o) : SR G (w.new p) (σ.new o) h' :=
  S.adopt (Wd.new_lt S h1 h2).sub (Wd.unheld_none (S.fresh h1)) (Wd.unheld_none (S.fresh h2)) (fun b y _ _ => k b y) e1 e2 r
theorem SR.upd {d : Addr} (S : SR G w σ h) (hi : w.φ[i]? = some p) (hd : w.m d = some (.obj i)) (k : Heap.SameBut d h h')
    (hx : ∃ y, h'.get? d = some y) (r : ORel G w h' i p o) : SR G w (σ.set i o) h' := by
  refine ⟨fun b q e => ?_, S.n, fun j q e => ?_⟩
  · by_cases z : b = d
    · subst z; rw [hd] at e; cases e; exact hx
    · exact (S.m b q e).keep fun _ y => (k.2 b z).trans y
  · by_cases z : j = i
    · have e' : some o = some q := (if_pos z).symm.trans e
      cases e'; subst z
      exact ⟨p, hi, r⟩
    · obtain ⟨q', x, b⟩ := S.obj j q ((if_neg z).symm.trans e)
      obtain ⟨⟨l1, o1, m1⟩, l2, o2, m2⟩ := b.held
      refine ⟨q', x, b.keep (Wd.Le.refl _).sub rfl rfl fun b' y hb e => (k.2 b' fun q => ?_).trans e⟩
      subst q
      rcases hb with rfl | rfl
      · rw [hd] at m1; exact lkOwn_ne z (Option.some.inj m1).symm
      · rw [hd] at m2; exact lkOwn_ne z (Option.some.inj m2).symm
end
noncomputable def ObjNs (o : Obj) (m : Str → Option Value) : Prop := ∃ es ep, o.data = .dict es ep ∧ StrKeys es ∧ ∀ name, nsFind es name = m name
theorem ObjNs.ns {o : Obj} {m : Str → Option Value} {h : Heap} {a : Addr} (x : ObjNs o m) (e : h.get? a = some o) : h.Ns a m := let ⟨es, ep, r⟩ := x; ⟨o, es, ep, e, r⟩
theorem ObjNs.slots {o : Obj} {m : Str → Option Value} (x : ObjNs o m) (sl : Array (Option Value)) : ObjNs { o with slots := sl } m := x
theorem ObjNs.of {m : Str → Option Value} {h : Heap} {a : Addr} (x : h.Ns a m) : ∃ o, h.get? a = some o ∧ ObjNs o m := let ⟨o, es, ep, e, r⟩ := x; ⟨o, e, es, ep, r⟩
structure FR (G : Gl) (w : Wd) (env : Env) (vis : List (Str × Nat)) (ρ : Rho) : Prop where
  kind : env.scope.kind = .function
  glob : env.globals = mainGlobals
  bi : env.builtins = builtinsNs
  ns : ∃ o m, w.m env.locals = some (.fr o) ∧ ObjNs o m ∧
    ∀ x k v, vis.lookup x = some k → env.scope.names.lookup x = some .local → ρ k = some v → ∃ y, m x = some y ∧ VR G w v y
  cells : ∀ x k v, vis.lookup x = some k → (env.scope.names.lookup x = some .cell ∨ env.scope.names.lookup x = some .free) → ρ k = some v →
    ∃ a o y, env.cells.lookup x = some a ∧ w.m a = some (.fr o) ∧ o.data = .cell (some y) ∧ VR G w v y
theorem FR.mono {G : Gl} {w w' : Wd} {env : Env} {vis : List (Str × Nat)} {ρ : Rho} (F : FR G w env vis ρ) (h : w.Le w') : FR G w' env vis ρ where
  kind := F.kind
  glob := F.glob
  bi := F.bi
  ns := let ⟨o, m, a, b, d⟩ := F.ns; ⟨o, m, h.m _ _ a, b, fun x k v e1 e2 e3 => let ⟨y, p, q⟩ := d x k v e1 e2 e3; ⟨y, p, q.mono h.sub⟩⟩
  cells x k v e1 e2 e3 := let ⟨a, o, y, p, q, r, z⟩ := F.cells x k v e1 e2 e3; ⟨a, o, y, p, h.m _ _ q, r, z.mono h.sub⟩
noncomputable def clsOk (K : Frag) (attrs : List String) (C : Addr) : Bool :=
  findIn K (.ref C) "__getattribute__" == some (some (.builtin "object.__getattribute__")) && findIn K (.ref C) "__getattr__" == some none && hasDictIn K C &&
  findIn K (.ref C) "__setattr__" == some (some (.builtin "object.__setattr__")) && plainOver K C && makesIn K C && attrs.all (fun a => findIn K (.ref C) (Str.ofString a) == some none)
structure Base (G : Gl) (w : Wd) : Prop where
  k : ∀ a o, G.K.lookup a = some o → w.m a = some (.fix o)
  g : ∃ o, w.m mainGlobals = some (.fix o) ∧ ObjNs o G.mg
  b : ∃ o, w.m builtinsNs = some (.fix o) ∧ ObjNs o G.mb
  bi : ∀ x : Str, x ≠ "__name__" → G.mb x = bootBuiltins x
  nolim : ∃ o mc, w.m cStatics = some (.fix o) ∧ ObjNs o mc ∧ mc "sys.recursionlimit" = none
  cls : ∀ x ∈ G.com.cls, ∃ C, clsAt G.K x = some C ∧ clsOk G.K G.com.attrs C = true
  exc : ∀ x ∈ G.com.excs, excOk G.K G.P.sub (G.com.excs ++ G.com.cls) x = true
section
variable {G : Gl} {w w' : Wd} {σ : St} {h : Heap}
theorem Base.mono (B : Base G w) (l : w.Sub w') : Base G w' :=
  ⟨fun a o e => l.m _ _ (B.k a o e), let ⟨o, e, x⟩ := B.g; ⟨o, l.m _ _ e, x⟩, let ⟨o, e, x⟩ := B.b; ⟨o, l.m _ _ e, x⟩, B.bi, let ⟨o, mc, e, x⟩ := B.nolim; ⟨o, mc, l.m _ _ e, x⟩, B.cls, B.exc⟩
theorem SR.at (S : SR G w σ h) {a : Addr} {o : Obj} (e : w.m a = some (.fix o)) : h.get? a = some o := S.m _ _ e
theorem Base.kin (B : Base G w) (S : SR G w σ h) : G.K.In h := fun a o e => S.at (B.k a o e)
theorem Base.gns (B : Base G w) (S : SR G w σ h) : h.Ns mainGlobals G.mg := let ⟨_, e, x⟩ := B.g; x.ns (S.at e)
theorem Base.bns (B : Base G w) (S : SR G w σ h) : h.Ns builtinsNs G.mb := let ⟨_, e, x⟩ := B.b; x.ns (S.at e)
theorem Base.lim (B : Base G w) (S : SR G w σ h) : h.NoLimit := let ⟨_, mc, e, x, y⟩ := B.nolim; ⟨mc, x.ns (S.at e), y⟩
theorem FR.locals {env : Env} {vis : List (Str × Nat)} {ρ : Rho} (F : FR G w env vis ρ) (S : SR G w σ h) : ∃ m, h.Ns env.locals m ∧
    ∀ x k v, vis.lookup x = some k → env.scope.names.lookup x = some .local → ρ k = some v → ∃ y, m x = some y ∧ VR G w v y :=
  let ⟨_, m, a, b, d⟩ := F.ns
  let ⟨_, sl, e⟩ := S.m _ _ a
  ⟨m, (b.slots sl).ns e, d⟩
end
structure Fits (G : Gl) (cx : Cxt) (env : Env) : Prop where
  names : env.scope.names = cx.scope.names
  cls : cx.cls = G.com.cls
  attrs : cx.attrs = G.com.attrs
  cells : ∀ x, cx.scope.names.lookup x = some .cell → (env.cells.lookup x).isSome = true
noncomputable def Same (s s' : Shared) : Prop := ∃ h tk, s' = { s with heap := h, toks := tk }
theorem Same.refl (s : Shared) : Same s s := ⟨s.heap, s.toks, rfl⟩
theorem Same.trans {a b d : Shared} (h : Same a b) (k : Same b d) : Same a d := by
  obtain ⟨h1, t1, rfl⟩ := h
  obtain ⟨h2, t2, rfl⟩ := k
  exact ⟨h2, t2, rfl⟩
theorem Same.of (s : Shared) (h : Heap) (t : Nat) : Same s { s with heap := h, toks := t } := ⟨h, t, rfl⟩
end Lw
namespace Lw
open PySem PySem.W PySem.Calls PyProof.Rows
structure AOK (A : Around) (n : Nat) (hd : Bool) (w : Wd) (envs : List Env) : Prop where
  handled : hd = false → A.handled = none
  depth : A.depth + 4 * n + 4 < 1000
  units : A.units + 100 * n + 200 < 9900
  frs : ∀ env ∈ envs, env.scope.kind = .function ∧ ∃ L o, env.frame = some L ∧ w.m L = some (.fr o)
theorem AOK.mono {A : Around} {n : Nat} {hd : Bool} {w w' : Wd} {envs : List Env} (h : AOK A n hd w envs) (l : ∀ x o, w.m x = some (.fr o) → w'.m x = some (.fr o)) : AOK A n hd w' envs :=
  ⟨h.handled, h.depth, h.units, fun e q => let ⟨a, L, o, x, y⟩ := h.frs e q; ⟨a, L, o, x, l _ _ y⟩⟩
structure Post (G : Gl) (w : Wd) (s : Shared) (w' : Wd) (σ' : St) (s' : Shared) : Prop where
  hs : Same s s'
  hw : w.Le w'
  S : SR G w' σ' s'.heap
structure Ahead (w : Wd) (s : Shared) (w' : Wd) (s' : Shared) : Prop where
  hs : Same s s'
  hw : w.Le w'
section
variable {G : Gl} {w w' w₀ w₁ : Wd} {s s' s₀ s₁ : Shared} {σ σ' : St} {h : Heap} {tk : Nat}
theorem Ahead.refl : Ahead w s w s := ⟨.refl _, .refl _⟩
theorem Post.ahead (p : Post G w s w' σ' s') : Ahead w s w' s' := ⟨p.hs, p.hw⟩
theorem Ahead.post (a : Ahead w₀ s₀ w s) (p : Post G w s w' σ' s') : Post G w₀ s₀ w' σ' s' := ⟨a.hs.trans p.hs, a.hw.trans p.hw, p.S⟩
theorem Ahead.step (a : Ahead w₀ s₀ w s) (p : Post G w s w' σ' s') : Ahead w₀ s₀ w' s' := ⟨a.hs.trans p.hs, a.hw.trans p.hw⟩
theorem SR.post (S : SR G w σ s.heap) : Post G w s w σ s := ⟨.refl _, .refl _, S⟩
theorem SR.postH (S : SR G w σ h) : Post G w s w σ { s with heap := h, toks := tk } := ⟨.of _ _ _, .refl _, S⟩
end
noncomputable def XP (G : Gl) (w : Wd) (s : Shared) (envs : List Env) (x : String) (σ' : St) (e : Value) (s' : Shared) : Prop :=
  ∃ (ea C : Addr) (a0 : Value) (B : Heap) (w' : Wd), e = .ref ea ∧ ExcCls G x C ∧ Post G w s w' σ' s' ∧ Heap.FlyingW B envs ea (.ref C) a0 s'.heap ∧
    ∀ b o y, w'.m b = some o → (∀ z, o ≠ .fr z) → s'.heap.get? b = some y → B.get? b = some y
theorem XP.mono {G : Gl} {w w₁ : Wd} {s s₁ : Shared} {envs : List Env} {x : String} {σ' : St} {e : Value} {s' : Shared} (a : Ahead w s w₁ s₁) (h : XP G w₁ s₁ envs x σ' e s') : XP G w s envs x σ' e s' :=
  let ⟨ea, C, a0, B, w', e1, e2, p, r⟩ := h; ⟨ea, C, a0, B, w', e1, e2, a.post p, r⟩
noncomputable def Out {α β : Type} (G : Gl) (R : Wd → α → β → Prop) (w : Wd) (s : Shared) (a : α) (σ' : St) : β → Shared → Prop := fun v s' => ∃ w', Post G w s w' σ' s' ∧ R w' a v
noncomputable def QV {α β : Type} (G : Gl) (R : Wd → α → β → Prop) (w : Wd) (s : Shared) : Res α → St → β → Shared → Prop
  | .ok a, σ' => Out G R w s a σ'
  | .exc _, _ => fun _ _ => False
noncomputable def QX {α : Type} (G : Gl) (w : Wd) (s : Shared) (envs : List Env) : Res α → St → Value → Shared → Prop
  | .ok _, _ => fun _ _ => False
  | .exc x, σ' => XP G w s envs x σ'
structure Pt (G : Gl) (n : Nat) (cx : Cxt) where
  hd : Bool
  w : Wd
  ρ : Rho
  σ : St
  env : Env
  envs : List Env
  A : Around
  s : Shared
  B : Base G w
  S : SR G w σ s.heap
  F : FR G w env cx.vis ρ
  hn : Fits G cx env
  hA : AOK A n hd w envs
  fr : A.frames = some envs
section
variable {G : Gl} {n : Nat} {cx : Cxt} {w' w₀ : Wd} {s' s₀ : Shared} {σ' : St}
noncomputable def Pt.to (X : Pt G n cx) (p : Post G X.w X.s w' σ' s') : Pt G n cx := { X with w := w', σ := σ', s := s', B := X.B.mono p.hw.sub, S := p.S, F := X.F.mono p.hw, hA := X.hA.mono fun _ _ e => p.hw.m _ _ e }
noncomputable def Pt.ev (X : Pt G n cx) (e : E) : RV := Lw.ev G.P (run G.P n) X.hd e X.ρ X.σ
noncomputable def Pt.Qv (X : Pt G n cx) (r : Res V) (σ' : St) : Value → Shared → Prop := QV G (VR G) X.w X.s r σ'
noncomputable def Pt.Qx (X : Pt G n cx) (r : Res V) (σ' : St) : Value → Shared → Prop := QX G X.w X.s X.envs r σ'
structure Sim (G : Gl) (n : Nat) (cx : Cxt) (ir : E) (e : Expr) : Prop where
  v : ∀ (X : Pt G n cx) (r : Res V) (σ' : St), X.ev ir = some (r, σ') → wpAny G.M X.A (eval e X.env) (X.Qv r σ') (X.Qx r σ') X.s
  t : ∀ (X : Pt G n cx) (r : Res V) (σ' : St), X.ev ir = some (r, σ') → (∀ a, r = .ok a → ∃ t, truthV σ' a = some t) →
    wpAny G.M X.A (isTrue e X.env (eval e X.env)) (QV G (fun _ a t => truthV σ' a = some t) X.w X.s r σ') (X.Qx r σ') X.s
variable {a : E} {e : Expr} {α : Type} {r : Res α} {k : V → St → Option (Res α × St)} {R : Value → Shared → Prop}
theorem Sim.bind (ha : Sim G n cx a e) (X : Pt G n cx) (A0 : Ahead w₀ s₀ X.w X.s) (hev : bindM (X.ev a) k = some (r, σ'))
    (hk : ∀ x xv w₁ σ₁ s₁ (_ : Post G X.w X.s w₁ σ₁ s₁), VR G w₁ x xv → k x σ₁ = some (r, σ') → R xv s₁) :
    wpAny G.M X.A (eval e X.env) R (QX G w₀ s₀ X.envs r σ') X.s := by
  cases h1 : X.ev a with
  | none => rw [h1] at hev; cases hev
  | some q =>
    rw [h1] at hev
    obtain ⟨x | x, σ₁⟩ := q
    · exact wpAny_mono (ha.v X _ _ h1) (fun v s₁ ⟨w₁, p, hv⟩ => hk _ _ _ _ _ p hv hev) fun _ _ q => q.elim
    · cases hev
      exact wpAny_mono (ha.v X _ _ h1) (fun _ _ q => q.elim) fun _ _ q => q.mono A0
theorem truthV_sound {A : Around} {s : Shared} {w : Wd} {σ : St} {a : V} {v : Value} {t : Bool} {E : Value → Shared → Prop} {Q : Bool → Shared → Prop} (hv : VR G w a v) (ht : truthV σ a = some t) (h : Q t s) : wpAny G.M A (truthy v) Q E s := by
  cases hv with
  | none => cases ht; exact truthy_none h
  | bool b => cases ht; exact wpAny_truthy_bool h
  | int i t =>
    cases ht
    refine PyProof.Rows.truthy_int ?_
    rw [show (i != 0) = decide (i ≠ 0) from by by_cases q : i = 0 <;> simp [q]]
    exact h
  | str => cases ht
  | tup => cases ht
  | lst => cases ht
  | rng => cases ht
  | ref => cases ht
  | exc => cases ht
theorem Sim.of (hv : ∀ (X : Pt G n cx) (r : Res V) (σ' : St), X.ev a = some (r, σ') → wpAny G.M X.A (eval e X.env) (QV G (VR G) X.w X.s r σ') (QX G X.w X.s X.envs r σ') X.s)
    (he : ∀ env whole, isTrue e env whole = (do let v ← whole; standAt e.pos; holding [v] (truthy v))) : Sim G n cx a e :=
  ⟨hv, fun X r σ' hev ht => wpAny_isTrue_value (wpAny_mono (hv X r σ' hev) (fun v s₁ q => by
    cases r with
    | exc => exact q.elim
    | ok y =>
      obtain ⟨w₁, p, hv⟩ := q
      obtain ⟨t, ht⟩ := ht y rfl
      exact truthV_sound hv ht ⟨w₁, p, ht⟩) fun _ _ q => q) (he _ _)⟩
theorem Pt.out (X : Pt G n cx) {v : V} {x : Value} {tk : Nat} (hv : VR G X.w v x) : Out G (VR G) X.w X.s v X.σ x { X.s with toks := tk } := ⟨X.w, ⟨.of _ _ _, .refl _, X.S⟩, hv⟩
theorem Pt.out' (X : Pt G n cx) {v : V} {x : Value} (hv : VR G X.w v x) : Out G (VR G) X.w X.s v X.σ x X.s := X.out (tk := X.s.toks) hv
@[elab_as_elim] theorem ok_inv {σ : St} {v : V} {r : Res V} {C : Res V → St → Prop} (h : some (Res.ok v, σ) = some (r, σ')) (k : C (.ok v) σ) : C r σ' := by cases h; exact k
@[elab_as_elim] theorem retV_inv {o : Option V} {σ : St} {r : Res V} {C : Res V → St → Prop} (h : retV o σ = some (r, σ')) (k : ∀ v, o = some v → C (.ok v) σ) : C r σ' := by
  cases o with
  | none => cases h
  | some v => cases h; exact k v rfl
@[elab_as_elim] theorem retB_inv {o : Option Bool} {σ : St} {r : Res V} {C : Res V → St → Prop} (h : retB o σ = some (r, σ')) (k : ∀ v, o = some v → C (.ok (.bool v)) σ) : C r σ' := by
  cases o with
  | none => cases h
  | some v => cases h; exact k v rfl
theorem onO_inv {α β : Type} {o : Option α} {k : α → Option β} {b : β} (h : onO o k = some b) : ∃ a, o = some a ∧ k a = some b := by
  cases o with
  | none => cases h
  | some a => exact ⟨a, rfl, h⟩
theorem orElse_inv {α : Type} {a b : Option α} {z : α} (h : orElse a b = some z) : a = some z ∨ b = some z := by
  cases a with
  | none => exact .inr h
  | some x => exact .inl h
theorem listAt_inv {σ : St} {i : Nat} {vs : List V} (h : listAt σ i = some vs) : ∃ l, σ.get i = some (.list l vs) := by
  obtain ⟨o, e, h⟩ := Option.bind_eq_some_iff.mp h
  cases o with
  | list l us => cases h; exact ⟨l, e⟩
  | _ => exact no h
theorem if_inv {p : Prop} [Decidable p] {α : Type} {x : Option α} {z : α} (h : (if p then x else none) = some z) : p ∧ x = some z := by
  split at h
  · exact ⟨‹_›, h⟩
  · cases h
theorem ifn_inv {p : Prop} [Decidable p] {α : Type} {x : Option α} {z : α} (h : (if p then none else x) = some z) : ¬ p ∧ x = some z := by
  split at h
  · cases h
  · exact ⟨‹_›, h⟩
theorem sim_cNone {j : Nat} {pos : Pos} : Sim G n cx .cNone (.Constant .none j pos) := .of (fun X _ _ hev => ok_inv hev (wpAny_Constant_none (X.out' .none))) fun _ _ => rfl
theorem sim_cBool {b : Bool} {j : Nat} {pos : Pos} : Sim G n cx (.cBool b) (.Constant (.bool b) j pos) := .of (fun X _ _ hev => ok_inv hev (wpAny_Constant_bool (X.out' (.bool _)))) fun _ _ => rfl
theorem sim_cInt {i : Int} {j : Nat} {pos : Pos} : Sim G n cx (.cInt i) (.Constant (.int i) j pos) := .of (fun X _ _ hev => ok_inv hev (wpAny_Constant_int (X.out (.int _ _)))) fun _ _ => rfl
theorem sim_cStr {x : Str} {j : Nat} {pos : Pos} (hx : sOk x = true) : Sim G n cx (.cStr x) (.Constant (.str x) j pos) := .of (fun X _ _ hev => ok_inv hev (wpAny_Constant_str (X.out (.str _ _ hx)))) fun _ _ => rfl
theorem sim_var {j : Nat} {x : Str} {pos : Pos} (hvis : cx.vis.lookup x = some j) (hl : cx.isLocal x = true) (hdb : (x == ("__debug__" : Str)) = false) (hcd : (x == ("__classdict__" : Str)) = false) :
    Sim G n cx (.var j) (.Name x pos) := .of (fun X r σ' hev => retV_inv hev fun v hv => by
  refine wpAny_Name ?_ hdb
  unfold Cxt.isLocal at hl
  rw [← X.hn.names] at hl
  split at hl
  · rename_i hk
    obtain ⟨m, hns, hm⟩ := X.F.locals X.S
    obtain ⟨y, e, hy⟩ := hm x j v hvis hk hv
    exact wpAny_loadName_local X.F.kind hk hns e (X.out' hy)
  · rename_i hk
    obtain ⟨a, o, y, e1, e2, e3, hy⟩ := X.F.cells x j v hvis (.inl hk) hv
    obtain ⟨_, sl, e2⟩ := X.S.m _ _ e2
    exact wpAny_loadName_cell X.F.kind hk e1 ⟨_, e2, e3⟩ (X.out' hy)
  · rename_i hk
    obtain ⟨a, o, y, e1, e2, e3, hy⟩ := X.F.cells x j v hvis (.inr hk) hv
    obtain ⟨_, sl, e2⟩ := X.S.m _ _ e2
    exact wpAny_loadName_free X.F.kind hk e1 ⟨_, e2, e3⟩ (X.out' hy) hcd
  · cases hl) fun _ _ => rfl
theorem glob_inv {x : Str} (X : Pt G n cx) (hg : cx.isGlob x = true) : X.env.scope.names.lookup x = some .globalImplicit ∧ (x == ("__debug__" : Str)) = false := by
  unfold Cxt.isGlob at hg
  rw [← X.hn.names] at hg
  simpa using hg
theorem glob_name {x : Str} {pos : Pos} {v : Value} {E : Value → Shared → Prop} {Q : Value → Shared → Prop} (X : Pt G n cx) (hg : cx.isGlob x = true) (e : nsIn G.K mainGlobals x = some (some v)) (h : Q v X.s) : wpAny G.M X.A (eval (.Name x pos) X.env) Q E X.s :=
  have hg := glob_inv X hg
  Name_function_global X.F.kind hg.1 (loadGlobal_global (by rw [X.F.glob]; exact X.B.gns X.S) (mg_of (X.B.kin X.S) (X.B.gns X.S) e) h) hg.2
theorem glob_bi {x : Str} {pos : Pos} {v : Value} {E : Value → Shared → Prop} {Q : Value → Shared → Prop} (X : Pt G n cx) (hg : cx.isGlob x = true) (e : nsIn G.K mainGlobals x = some none) (hb : bootBuiltins x = some v) (hx : x ≠ "__name__") (h : Q v X.s) : wpAny G.M X.A (eval (.Name x pos) X.env) Q E X.s :=
  have hg := glob_inv X hg
  Name_function_global X.F.kind hg.1 (loadGlobal_builtin (by rw [X.F.glob]; exact X.B.gns X.S) (mg_none_of (X.B.kin X.S) (X.B.gns X.S) e) (by rw [X.F.bi]; exact X.B.bns X.S) ((X.B.bi x hx).trans hb) h) hg.2
theorem sim_gint {x : String} {i : Int} {t : Tok} {pos : Pos} (hg : cx.isGlob (Str.ofString x) = true) (e : nsIn G.K mainGlobals (Str.ofString x) = some (some (.int i t))) :
    Sim G n cx (.gint x i) (.Name (Str.ofString x) pos) := .of (fun X _ _ hev => ok_inv hev (glob_name X hg e (X.out' (.int _ _)))) fun _ _ => rfl
end
end Lw
namespace Lw
open PySem PySem.W PySem.Calls PyProof.Rows
theorem log60 {a : Nat} (h0 : a ≠ 0) (h : a < 2 ^ 60) : a.log2 < 60 := (Nat.log2_lt h0).mpr h
theorem bits_small {a : Int} (h : a.natAbs < 2 ^ 60) : Builtin.Int.intBits a ≤ 64 := by
  unfold Builtin.Int.intBits
  split
  · decide
  · rename_i h0
    exact Nat.le_trans (Nat.succ_le_succ (Nat.le_of_lt (log60 (fun q => h0 (by simp at q; simp [q])) h))) (by decide)
theorem sOk_iff {a : Str} : sOk a = true ↔ PyData.strOk a = true ∧ a.cps.size ≤ lim := by unfold sOk; simp
theorem strOk_append {a b : Str} (ha : PyData.strOk a = true) (hb : PyData.strOk b = true) : PyData.strOk (a ++ b) = true := by
  unfold PyData.strOk at *
  rw [Str.cps_append, Array.all_append, ha, hb]; rfl
theorem get_size (h : Heap) : h.get? h.objs.size = none := by
  cases e : h.get? h.objs.size with
  | none => rfl
  | some o => exact absurd (Heap.lt_size e) (Nat.lt_irrefl _)
theorem push_keeps (h : Heap) (o : Obj) : ∀ b x, h.get? b = some x → (h.push o).get? b = some x := fun _ _ e => Heap.get?_push_of_some _ e
theorem lim_size0 {k : Nat} (h : k ≤ lim) : k ≤ sizeLine := Nat.le_trans h (by decide)
theorem withInt_inv {α : Type} {v : V} {k : Int → Option α} {z : α} (h : withInt v k = some z) : ∃ i, v = .int i ∧ k i = some z := by
  cases v with
  | int i => exact ⟨_, rfl, h⟩
  | _ => exact no h
theorem withStr_inv {α : Type} {v : V} {k : Str → Option α} {z : α} (h : withStr v k = some z) : ∃ i, v = .str i ∧ k i = some z := by
  cases v with
  | str i => exact ⟨_, rfl, h⟩
  | _ => exact no h
theorem withLst_inv {α : Type} {v : V} {k : List V → Option α} {z : α} (h : withLst v k = some z) : ∃ i, v = .lst i ∧ k i = some z := by
  cases v with
  | lst i => exact ⟨_, rfl, h⟩
  | _ => exact no h
theorem withRef_inv {α : Type} {v : V} {k : Nat → Option α} {z : α} (h : withRef v k = some z) : ∃ i, v = .ref i ∧ k i = some z := by
  cases v with
  | ref i => exact ⟨_, rfl, h⟩
  | _ => exact no h
theorem int2_inv {a b z : V} {k : Int → Int → Option V} (h : int2 a b k = some z) : ∃ i j, a = .int i ∧ b = .int j ∧ k i j = some z :=
  let ⟨i, e1, h⟩ := withInt_inv h
  let ⟨j, e2, h⟩ := withInt_inv h
  ⟨i, j, e1, e2, h⟩
theorem cmpI_inv {a b : V} {k : Int → Int → Bool} {t : Bool} (h : cmpI a b k = some t) : ∃ i j, a = .int i ∧ b = .int j ∧ k i j = t :=
  let ⟨i, e1, h⟩ := withInt_inv h
  let ⟨j, e2, h⟩ := withInt_inv h
  ⟨i, j, e1, e2, Option.some.inj h⟩
theorem addV_inv {a b z : V} (h : addV a b = some z) : (∃ i j, a = .int i ∧ b = .int j ∧ .int (i + j) = z) ∨ (∃ i j, a = .str i ∧ b = .str j ∧ i.length + j.length ≤ lim ∧ .str (i ++ j) = z) ∨ ∃ i j, a = .lst i ∧ b = .lst j ∧ i.length + j.length ≤ lim ∧ .lst (i ++ j) = z := by
  cases a with
  | int i => let ⟨j, e, h⟩ := withInt_inv h; exact .inl ⟨i, j, rfl, e, Option.some.inj h⟩
  | str i => let ⟨j, e, h⟩ := withStr_inv h; exact .inr (.inl ⟨i, j, rfl, e, (if_inv h).1, Option.some.inj (if_inv h).2⟩)
  | lst i => let ⟨j, e, h⟩ := withLst_inv h; exact .inr (.inr ⟨i, j, rfl, e, (if_inv h).1, Option.some.inj (if_inv h).2⟩)
  | _ => exact no h
section
variable {G : Gl} {n : Nat} {cx : Cxt} {w w' w₀ : Wd} {s s' s₀ : Shared} {σ σ' : St} {A : Around} {Ex : Value → Shared → Prop} {Q : Value → Shared → Prop} {x y : Value}
theorem add_two {l b : Addr} {vs ws : Array Value} (hl : s.heap.IsList l vs) (hb : s.heap.IsList b ws)
    (h : Q (.ref s.heap.objs.size) { s with heap := s.heap.push { cls := .type "list", data := .seq (vs ++ ws) } }) (hsz : vs.size + ws.size ≤ sizeLine) :
    wpAny G.M A (binaryOp .Add (.ref l) (.ref b)) Q Ex s := by
  obtain ⟨⟨cls, dd, data, sl⟩, ho, hc, n, hd⟩ := id hl
  obtain ⟨⟨cls2, dd2, data2, sl2⟩, ho2, hc2, n2, hd2⟩ := id hb
  simp only at hc hd hc2 hd2
  subst hc hd hc2 hd2
  exact concat_meets ⟨_, ho, rfl⟩ ⟨_, ho2, rfl⟩ noFill_list_add seq_list_add PySem.F.slot_list_add PySem.F.entry_list_add (PySem.F.args_list_add_2 _ _) (list_addW l b vs ws n n2 dd dd2 sl sl2 hsz) ⟨ho, ho2, h⟩
theorem VR.intv {i : Int} (h : VR G w (.int i) x) : ∃ t, x = .int i t := by cases h; exact ⟨_, rfl⟩
theorem VR.strv {i : Str} (h : VR G w (.str i) x) : ∃ t, x = .str i t ∧ sOk i = true := by cases h; exact ⟨_, rfl, ‹_›⟩
theorem VR.refv {i : Nat} (h : VR G w (.ref i) x) : ∃ p, w.φ[i]? = some p ∧ x = .ref p.1 := by cases h; exact ⟨_, ‹_›, rfl⟩
theorem VR.lstv {vs : List V} (h : VR G w (.lst vs) x) (S : SR G w σ s.heap) : ∃ a xs, x = .ref a ∧ s.heap.IsList a xs ∧ VRs G w vs xs.toList ∧ vs.length ≤ lim := by
  cases h with
  | lst e1 e2 e3 e4 e5 => exact ⟨_, _, rfl, ⟨_, S.at e1, e2, _, e3⟩, e4, e5⟩
theorem VR.tupv {vs : List V} (h : VR G w (.tup vs) x) (S : SR G w σ s.heap) : ∃ a o xs k, x = .ref a ∧ s.heap.get? a = some o ∧ o.cls = .type "tuple" ∧ o.data = .seq xs k ∧ VRs G w vs xs.toList ∧ vs.length ≤ lim := by
  cases h with
  | tup e1 e2 e3 e4 e5 => exact ⟨_, _, _, _, rfl, S.at e1, e2, e3, e4, e5⟩
theorem VRs.size {vs : List V} {xs : Array Value} (h : VRs G w vs xs.toList) : vs.length = xs.size := (All2.length h).trans (Array.length_toList ..)
theorem SR.freeze {o : Obj} {tk : Nat} {v : V} (S : SR G w σ s.heap) (hv : VR G (w.set s.heap.objs.size (.fix o)) v (.ref s.heap.objs.size)) (hf : o.isFreed = false) : Out G (VR G) w s v σ (.ref s.heap.objs.size) { s with heap := s.heap.push o, toks := tk } :=
  ⟨_, ⟨.of _ _ _, Wd.le_set (S.fresh (get_size _)), S.put (x := .fix o) (get_size _) (push_keeps _ _) (Heap.get?_push_size s.heap hf)⟩, hv⟩
theorem SR.freezeL {vs : List V} {xs : Array Value} {e : Nat} {tk : Nat} (S : SR G w σ s.heap) (hv : VRs G w vs xs.toList) (hl : vs.length ≤ lim) : Out G (VR G) w s (.lst vs) σ (.ref s.heap.objs.size) { s with heap := s.heap.push ⟨.type "list", none, .seq xs e, #[]⟩, toks := tk } :=
  S.freeze (.lst Wd.set_at rfl rfl (hv.mono (Wd.le_set (S.fresh (get_size _))).sub) hl) rfl
theorem SR.outI {i : Int} {t : Tok} {tk : Nat} (S : SR G w σ s.heap) : Out G (VR G) w s (.int i) σ (.int i t) { s with toks := tk } := ⟨w, S.postH, .int _ _⟩
theorem addV_sound {a b z : V} (S : SR G w σ s.heap) (ha : VR G w a x) (hb : VR G w b y) (hz : addV a b = some z) : wpAny G.M A (binaryOp .Add x y) (Out G (VR G) w s z σ) Ex s := by
  rcases addV_inv hz with ⟨i, j, rfl, rfl, rfl⟩ | ⟨i, j, rfl, rfl, hl, rfl⟩ | ⟨i, j, rfl, rfl, hl, rfl⟩
  · obtain ⟨t, rfl⟩ := ha.intv
    obtain ⟨u, rfl⟩ := hb.intv
    exact wpAny_add_int S.outI
  · obtain ⟨t, rfl, ka⟩ := ha.strv
    obtain ⟨u, rfl, kb⟩ := hb.strv
    exact add_str (fun t' tk => ⟨w, S.postH, .str _ _ (sOk_iff.mpr ⟨strOk_append (sOk_iff.mp ka).1 (sOk_iff.mp kb).1, by rw [Str.cps_append, Array.size_append]; exact hl⟩)⟩) (lim_size0 hl)
  · obtain ⟨a, xs, rfl, la, va, _⟩ := ha.lstv S
    obtain ⟨b, ys, rfl, lb, vb, _⟩ := hb.lstv S
    exact add_two la lb (S.freezeL (tk := s.toks) (by rw [Array.toList_append]; exact All2.append va vb) (by rw [List.length_append]; exact hl)) (by rw [← va.size, ← vb.size]; exact lim_size0 hl)
theorem binV_sound {op : BOp} {a b z : V} (S : SR G w σ s.heap) (ha : VR G w a x) (hb : VR G w b y) (hz : binV op a b = some z) : wpAny G.M A (binaryOp (bopOf op) x y) (Out G (VR G) w s z σ) Ex s := by
  have two : ∀ {k : Int → Int → Option V} {C : Prop}, int2 a b k = some z → (∀ i j u v, x = .int i u → y = .int j v → k i j = some z → C) → C := fun e q => by
    obtain ⟨i, j, rfl, rfl, e'⟩ := int2_inv e
    obtain ⟨u, hu⟩ := ha.intv
    obtain ⟨v, hv⟩ := hb.intv
    exact q i j u v hu hv e'
  cases op with
  | add => exact addV_sound S ha hb hz
  | sub => exact two hz fun i j u v e1 e2 e => by subst e1 e2; cases e; exact PyProof.Rows.sub_int S.outI
  | mul => exact two hz fun i j u v e1 e2 e => by subst e1 e2; obtain ⟨hl, e⟩ := if_inv e; cases e; exact PyProof.Rows.mul_int S.outI (IntMulOk.of_left (bits_small hl.1))
  | fdiv =>
    exact two hz fun i j u v e1 e2 e => by
      subst e1 e2; obtain ⟨hl, e⟩ := if_inv e; cases e
      exact PyProof.Rows.floordiv_int (Int.ne_of_gt hl.1) (by rw [Int.fdiv_eq_ediv_of_nonneg _ (Int.le_of_lt hl.1)]; exact S.outI) (.inl (PyProof.noPylong_of_log2 (Nat.lt_trans (log60 (by lia) (by lia)) (by decide))))
  | mod =>
    exact two hz fun i j u v e1 e2 e => by
      subst e1 e2; obtain ⟨hl, e⟩ := if_inv e; cases e
      exact PyProof.Rows.mod_int' (Int.ne_of_gt hl.1) (by rw [Int.fmod_eq_emod_of_nonneg _ (Int.le_of_lt hl.1)]; exact S.outI)
  | pow =>
    exact two hz fun i j u v e1 e2 e => by
      subst e1 e2; obtain ⟨⟨q, h1, h2⟩, e⟩ := if_inv e; cases e; subst q
      exact PyProof.Rows.pow_int_small h1 (Int.le_trans h2 (by decide)) (by decide) S.outI
theorem Ahead.out {α β : Type} {R : Wd → α → β → Prop} {a : α} {v : β} (A0 : Ahead w₀ s₀ w s) (h : Out G R w s a σ' v s') : Out G R w₀ s₀ a σ' v s' := let ⟨w', p, hv⟩ := h; ⟨w', A0.post p, hv⟩
theorem wp_out {β : Type} {R : Wd → V → β → Prop} {z : V} {t : Sem β} (A0 : Ahead w₀ s₀ w s) (h : wpAny G.M A t (Out G R w s z σ') Ex s) : wpAny G.M A t (Out G R w₀ s₀ z σ') Ex s := wpAny_mono h (fun _ _ q => A0.out q) fun _ _ q => q
theorem sim_bin {op : BOp} {a b : E} {l r : Expr} {pos : Pos} (ha : Sim G n cx a l) (hb : Sim G n cx b r) : Sim G n cx (.bin op a b) (.BinOp l (bopOf op) r pos) :=
  .of (fun X r σ' hev => wpAny_BinOp (ha.bind X .refl hev fun x xv w₁ σ₁ s₁ p hx hk => hb.bind (X.to p) p.ahead hk fun y yv w₂ σ₂ s₂ q hy hk =>
    retV_inv hk fun z hz => wp_out (p.ahead.step q) (binV_sound q.S (hx.mono q.hw.sub) hy hz))) fun _ _ => rfl
noncomputable def RdOk (h : Heap) (m : Nat) (x : Value) (d : PyData) : Prop := (∃ as, Reads h x d as) ∧ d.canLay0 = true ∧ d.depth ≤ m
theorem mapO_reads {h : Heap} {m : Nat} {f : V → Option PyData} (ih : ∀ v x d, VR G w v x → f v = some d → RdOk h m x d) {vs : List V} {xs : List Value} (r : VRs G w vs xs) :
    ∀ {ds : List PyData}, mapO f vs = some ds → (∃ as, ReadsAll h xs ds as) ∧ PyData.canLayAll0 ds = true ∧ PyData.depthAll ds ≤ m := by
  induction r with
  | nil => intro ds e; cases e; exact ⟨⟨_, .nil⟩, rfl, Nat.zero_le _⟩
  | cons a _ ihr =>
    intro ds e
    obtain ⟨b, h1, e⟩ := onO_inv e
    obtain ⟨bs, h2, e⟩ := onO_inv e
    cases e
    obtain ⟨⟨as, q1⟩, q2, q3⟩ := ih _ _ _ a h1
    obtain ⟨⟨bs', p1⟩, p2, p3⟩ := ihr h2
    exact ⟨⟨_, .cons q1 p1⟩, Bool.and_eq_true_iff.mpr ⟨q2, p2⟩, Nat.max_le.mpr ⟨q3, p3⟩⟩
theorem flat_reads {h : Heap} {v : V} {d : PyData} {m : Nat} (hv : VR G w v x) (e : flatD v = some d) : RdOk h m x d := by
  cases v with
  | none => cases hv; cases e; exact ⟨⟨_, .none⟩, rfl, Nat.zero_le _⟩
  | bool => cases hv; cases e; exact ⟨⟨_, .bool _⟩, rfl, Nat.zero_le _⟩
  | int => cases hv; cases e; exact ⟨⟨_, .int _ _⟩, rfl, Nat.zero_le _⟩
  | str => obtain ⟨t, rfl, k⟩ := hv.strv; cases e; exact ⟨⟨_, .str _ _⟩, (sOk_iff.mp k).1, Nat.zero_le _⟩
  | _ => exact no e
theorem seqD_reads {h : Heap} (S : SR G w σ h) {m : Nat} (ih : ∀ v x d, VR G w v x → dataOf σ m v = some d → RdOk h m x d) {v : V} {d : PyData} (hv : VR G w v x) (e : seqD (mapO (dataOf σ m)) σ v = some d) : RdOk h (m + 1) x d := by
  cases v with
  | tup vs =>
    obtain ⟨ds, e', rfl⟩ := Option.map_eq_some_iff.mp e
    cases hv with
    | tup e1 e2 e3 e4 _ => obtain ⟨⟨as, q⟩, q2, q3⟩ := mapO_reads ih e4 e'; exact ⟨⟨_, .tuple (S.at e1) e2 e3 q⟩, q2, Nat.succ_le_succ q3⟩
  | lst vs =>
    obtain ⟨ds, e', rfl⟩ := Option.map_eq_some_iff.mp e
    cases hv with
    | lst e1 e2 e3 e4 _ => obtain ⟨⟨as, q⟩, q2, q3⟩ := mapO_reads ih e4 e'; exact ⟨⟨_, .list (S.at e1) e2 e3 q⟩, q2, Nat.succ_le_succ q3⟩
  | ref i =>
    obtain ⟨p, hp, rfl⟩ := hv.refv
    obtain ⟨vs, hg, e⟩ := onO_inv e
    obtain ⟨lk, hg⟩ := listAt_inv hg
    obtain ⟨ds, e', rfl⟩ := Option.map_eq_some_iff.mp e
    obtain ⟨q, hq, _, xs, k, r1, _, r2, _⟩ := S.obj _ _ hg
    rw [hp] at hq; cases hq
    obtain ⟨⟨as, q⟩, q2, q3⟩ := mapO_reads ih r2 e'
    exact ⟨⟨_, .list r1 rfl rfl q⟩, q2, Nat.succ_le_succ q3⟩
  | _ => exact no e
theorem reads_of {h : Heap} (S : SR G w σ h) (m : Nat) : ∀ (v : V) (x : Value) (d : PyData), VR G w v x → dataOf σ m v = some d → RdOk h m x d := by
  induction m with
  | zero => exact fun v x d hv e => flat_reads hv e
  | succ m ih => exact fun v x d hv e => (orElse_inv e).elim (flat_reads hv) (seqD_reads S ih hv)
theorem eqV_sound {a b : V} {t : Bool} (S : SR G w σ s.heap) (hu : A.units + 64 < 9900) (ha : VR G w a x) (hb : VR G w b y) (ht : eqV σ a b = some t) :
    (Q (.bool t) s → wpAny G.M A (compareOp .Eq x y) Q Ex s) ∧ (Q (.bool (!t)) s → wpAny G.M A (compareOp .NotEq x y) Q Ex s) := by
  obtain ⟨da, h1, ht⟩ := onO_inv ht
  obtain ⟨db, h2, ht⟩ := onO_inv ht
  cases ht
  obtain ⟨⟨as, r1⟩, c1, d1⟩ := reads_of S _ _ _ _ ha h1
  obtain ⟨⟨bs, r2⟩, c2, d2⟩ := reads_of S _ _ _ _ hb h2
  have sh : ∀ {d : PyData}, d.canLay0 = true → d.depth ≤ 6 → SeqAt.shaped d = true := fun c k => Bool.and_eq_true_iff.mpr ⟨c, decide_eq_true (Nat.le_trans k (by decide))⟩
  exact ⟨SeqAt.compareEq_shaped r1 r2 (sh c1 d1) (sh c2 d2) hu, SeqAt.compareNe_shaped r1 r2 (sh c1 d1) (sh c2 d2) hu⟩
theorem lk_valueAt {κ : Type} [DecidableEq κ] {es : List (κ × V)} {kvs : List (κ × Value)} (r : ER G w es kvs) (k : κ) :
    (∀ v, lk es k = some v → ∃ x, valueAt kvs k = some x ∧ VR G w v x) ∧ (lk es k = none → valueAt kvs k = none) := by
  induction r with
  | nil => exact ⟨fun v e => (nomatch e), fun _ => rfl⟩
  | @cons a b es kvs hv _ ih =>
    obtain ⟨k', v⟩ := a
    obtain ⟨k'', x⟩ := b
    obtain ⟨e, hv⟩ := hv
    simp only at e hv
    subst e
    by_cases h : k'' = k
    · rw [show lk ((k'', v) :: es) k = some v by simp [lk, h], show valueAt ((k'', x) :: kvs) k = some x by simp [valueAt, h]]
      exact ⟨fun u e => ⟨x, rfl, Option.some.inj e ▸ hv⟩, fun e => (nomatch e)⟩
    · rw [show lk ((k'', v) :: es) k = lk es k by simp [lk, h], show valueAt ((k'', x) :: kvs) k = valueAt kvs k by simp [valueAt, h]]; exact ih
theorem lk_isSome {κ : Type} [DecidableEq κ] {es : List (κ × V)} {kvs : List (κ × Value)} (r : ER G w es kvs) (k : κ) : (valueAt kvs k).isSome = (lk es k).isSome := by
  obtain ⟨h1, h2⟩ := lk_valueAt r k
  cases e : lk es k with
  | none => rw [h2 e]; rfl
  | some v => obtain ⟨x, q, _⟩ := h1 v e; rw [q]; rfl
theorem ne_beq {a b : Addr} (h : a ≠ b) : (a == b) = false := by simpa using h
theorem isInt_self (k : Int) (tk : Tok) : (intKind G.prog G.ω).is k (.int k tk) = true := by show Value.isInt k (.int k tk) = true; simp [Value.isInt]
noncomputable def InOk (G : Gl) (A : Around) (s : Shared) (x y : Value) (t : Bool) : Prop := ∀ (Q : Value → Shared → Prop) (Ex : Value → Shared → Prop),
    ((∀ tk, Q (.bool t) { s with toks := tk }) → wpAny G.M A (compareOp .In x y) Q Ex s) ∧ ((∀ tk, Q (.bool (!t)) { s with toks := tk }) → wpAny G.M A (compareOp .NotIn x y) Q Ex s)
theorem inL_sound {a : V} {vs : List V} {p : Addr} {xs : Array Value} {t : Bool} (S : SR G w σ s.heap) (hu : A.units + 64 < 9900) (ha : VR G w a x) (hl : s.heap.IsList p xs) (r2 : VRs G w vs xs.toList) (ht : inL σ a vs = some t) : InOk G A s x (.ref p) t := by
  obtain ⟨o, r1, hc, k, hd⟩ := hl
  obtain ⟨ds, h1, ht⟩ := onO_inv ht
  obtain ⟨d, h2, ht⟩ := onO_inv ht
  cases ht
  obtain ⟨⟨as, q1⟩, c1, d1⟩ := mapO_reads (reads_of S 5) r2 h1
  obtain ⟨⟨bs, q2⟩, c2, d2⟩ := reads_of S _ _ _ _ ha h2
  have hu' : A.units + 1 + min (PyData.depthAll ds) d.depth < cLine := Nat.lt_of_le_of_lt (Nat.add_le_add_left (Nat.le_trans (Nat.min_le_left ..) d1) _) (Nat.lt_of_le_of_lt (by lia) hu)
  exact fun Q Ex => ⟨fun h => SeqAt.in_list_reads (.list r1 hc hd q1) q2 c1 c2 hu' (h s.toks), fun h => SeqAt.notIn_list_reads (.list r1 hc hd q1) q2 c1 c2 hu' (h s.toks)⟩
theorem inD_sound {κ : Type} [DecidableEq κ] {knd : PySem.KeyKind G.prog G.ω κ} {k : κ} {l : Bool} {i : Nat} {es : List (κ × V)} {p : Addr × Addr} (hk : knd.is k x = true) (r : DRel G w s.heap i p knd l es) : InOk G A s x (.ref p.1) (lk es k).isSome :=
  let ⟨_, o, _, r1, _, r2, r3, _, r4⟩ := r
  have hm := (Heap.dictOf_iff.mpr ⟨o, r1, r2⟩).mapOf
  fun Q Ex => ⟨fun h => wpAny_in_of hk (ne_beq r4) hm (by rw [lk_isSome r3]; exact h _), fun h => wpAny_notIn_of hk (ne_beq r4) hm (by rw [lk_isSome r3]; exact h _)⟩
theorem inV_sound {a b : V} {t : Bool} (S : SR G w σ s.heap) (hu : A.units + 64 < 9900) (ha : VR G w a x) (hb : VR G w b y) (ht : inV σ a b = some t) : InOk G A s x y t := by
  cases b with
  | ref i =>
    obtain ⟨p, hp, rfl⟩ := hb.refv
    obtain ⟨o, hg, ht⟩ := onO_inv ht
    obtain ⟨q, hq, r⟩ := S.obj _ _ hg
    rw [hp] at hq; cases hq
    cases o with
    | di l es =>
      obtain ⟨k, rfl, ht⟩ := withInt_inv ht
      obtain ⟨tk, rfl⟩ := ha.intv
      cases ht
      exact inD_sound (isInt_self _ _) r
    | ds l es =>
      obtain ⟨k, rfl, ht⟩ := withStr_inv ht
      obtain ⟨tk, rfl, _⟩ := ha.strv
      cases ht
      exact inD_sound (strKind_is _ _ _ _) r.1
    | list l vs =>
      obtain ⟨_, xs, k, r1, _, r2, _⟩ := r
      exact inL_sound S hu ha ⟨_, r1, rfl, _, rfl⟩ r2 ht
    | inst => exact no ht
  | lst vs => obtain ⟨a, xs, rfl, hl, va, _⟩ := hb.lstv S; exact inL_sound S hu ha hl va ht
  | _ => exact no ht
theorem SR.ref (S : SR G w σ s.heap) {i : Nat} {o : O} {p : Addr × Addr} (hp : w.φ[i]? = some p) (hg : σ.get i = some o) : ORel G w s.heap i p o := by
  obtain ⟨q, hq, rr⟩ := S.obj _ _ hg
  rw [hp] at hq; cases hq; exact rr
theorem seqOf_inv {v : V} {vs : List V} (h : seqOf σ v = some vs) : v = .lst vs ∨ ∃ i l, v = .ref i ∧ σ.get i = some (.list l vs) := by
  cases v with
  | lst us => cases h; exact .inl rfl
  | ref i => obtain ⟨l, e⟩ := listAt_inv h; exact .inr ⟨i, l, rfl, e⟩
  | _ => exact no h
theorem seqOf_sound {v : V} {vs : List V} (S : SR G w σ s.heap) (hv : VR G w v x) (h : seqOf σ v = some vs) : ∃ a xs, x = .ref a ∧ s.heap.IsList a xs ∧ VRs G w vs xs.toList ∧ vs.length ≤ lim := by
  rcases seqOf_inv h with rfl | ⟨i, l, rfl, e⟩
  · exact hv.lstv S
  · obtain ⟨p, hp, rfl⟩ := hv.refv
    obtain ⟨_, xs, k, r1, _, r2, r3⟩ := S.ref hp e
    exact ⟨_, _, rfl, ⟨_, r1, rfl, _, rfl⟩, r2, r3⟩
theorem cmpV_sound {op : COp} {a b : V} {t : Bool} (S : SR G w σ s.heap) (hu : A.units + 64 < 9900) (ha : VR G w a x) (hb : VR G w b y) (ht : cmpV σ op a b = some t)
    (h : ∀ tk, Q (.bool t) { s with toks := tk }) : wpAny G.M A (compareOp (copOf op) x y) Q Ex s := by
  have two : ∀ {k : Int → Int → Bool} {C : Prop}, cmpI a b k = some t → (∀ i j u v, x = .int i u → y = .int j v → Q (.bool (k i j)) s → C) → C := fun e q => by
    obtain ⟨i, j, rfl, rfl, rfl⟩ := cmpI_inv e
    obtain ⟨u, hu⟩ := ha.intv
    obtain ⟨v, hv⟩ := hb.intv
    exact q i j u v hu hv (h s.toks)
  cases op with
  | lt => exact two ht fun i j u v e1 e2 h => by subst e1 e2; exact PyProof.Rows.lt_int h
  | le => exact two ht fun i j u v e1 e2 h => by subst e1 e2; exact PyProof.Rows.le_int h
  | gt => exact two ht fun i j u v e1 e2 h => by subst e1 e2; exact PySem.P.gt_int h
  | ge => exact two ht fun i j u v e1 e2 h => by subst e1 e2; exact PySem.P.ge_int h
  | eq => exact (eqV_sound S hu ha hb ht).1 (h s.toks)
  | ne => obtain ⟨t', e, rfl⟩ := Option.map_eq_some_iff.mp ht; exact (eqV_sound S hu ha hb e).2 (h s.toks)
  | isin => exact (inV_sound S hu ha hb ht Q Ex).1 h
  | notin => obtain ⟨t', e, rfl⟩ := Option.map_eq_some_iff.mp ht; exact (inV_sound S hu ha hb e Q Ex).2 h
theorem Pt.u64 (X : Pt G n cx) : X.A.units + 64 < 9900 := Nat.lt_of_le_of_lt (by lia) X.hA.units
theorem marks_of {op : CmpOp} {e : Expr} (h : notSetE e = true) : behindInMarks op e = false := by
  cases e <;> first | rfl | exact noB h
theorem sim_cmp {op : COp} {a b : E} {l r : Expr} {pos : Pos} (hns : notSetE r = true) (ha : Sim G n cx a l) (hb : Sim G n cx b r) : Sim G n cx (.cmp op a b) (.Compare l [copOf op] [r] pos) := by
  have core : ∀ (X : Pt G n cx) (rr : Res V) (σ' : St) (R : Value → Shared → Prop), X.ev (.cmp op a b) = some (rr, σ') → (∀ t w' s', Post G X.w X.s w' σ' s' → rr = .ok (.bool t) → R (.bool t) s') →
      wpAny G.M X.A (eval l X.env) (fun x s₁ => wpAny G.M X.A (eval r X.env) (fun y s₂ => wpAny G.M X.A (compareOp (copOf op) x y) R (QX G X.w X.s X.envs rr σ') s₂) (QX G X.w X.s X.envs rr σ') s₁) (QX G X.w X.s X.envs rr σ') X.s :=
    fun X rr σ' R hev hR => ha.bind X .refl hev fun x xv w₁ σ₁ s₁ p hx hk => hb.bind (X.to p) p.ahead hk fun y yv w₂ σ₂ s₂ q hy hk => by
      obtain ⟨t, ht, e⟩ := Option.map_eq_some_iff.mp hk
      cases e
      exact cmpV_sound q.S X.u64 (hx.mono q.hw.sub) hy ht fun tk => hR t w₂ _ ((p.ahead.step q).post q.S.postH) rfl
  exact ⟨fun X rr σ' hev => wpAny_Compare1 (core X rr σ' _ hev fun t w' s' p e => by subst e; exact ⟨w', p, .bool _⟩) (marks_of hns),
    fun X rr σ' hev _ => wpAny_isTrue_Compare1 (core X rr σ' _ hev fun t w' s' p e => by subst e; exact wpAny_truthy_bool ⟨w', p, rfl⟩) (marks_of hns)⟩
theorem none_eq {a : V} {x : Value} (h : VR G w a x) : (x == Value.none) = a.isNone := by cases h <;> rfl
theorem sim_isNone {a : E} {l : Expr} {k : Nat} {q pos : Pos} (ha : Sim G n cx a l) : Sim G n cx (.isNone a) (.Compare l [.Is] [.Constant .none k q] pos) :=
  ⟨fun X r σ' hev => wpAny_Compare1 (ha.bind X .refl hev fun x xv w₁ σ₁ s₁ p hx hk => ok_inv hk (wpAny_Constant_none (is_none ⟨w₁, p, none_eq hx ▸ .bool _⟩))),
   fun X r σ' hev _ => wpAny_isTrue_Compare1 (ha.bind X .refl hev fun x xv w₁ σ₁ s₁ p hx hk => ok_inv hk (wpAny_Constant_none (is_none (wpAny_truthy_bool ⟨w₁, p, congrArg some (none_eq hx).symm⟩))))⟩
theorem sim_notNone {a : E} {l : Expr} {k : Nat} {q pos : Pos} (ha : Sim G n cx a l) : Sim G n cx (.notNone a) (.Compare l [.IsNot] [.Constant .none k q] pos) :=
  ⟨fun X r σ' hev => wpAny_Compare1 (ha.bind X .refl hev fun x xv w₁ σ₁ s₁ p hx hk => ok_inv hk (wpAny_Constant_none (isNot_none ⟨w₁, p, none_eq hx ▸ .bool _⟩))),
   fun X r σ' hev _ => wpAny_isTrue_Compare1 (ha.bind X .refl hev fun x xv w₁ σ₁ s₁ p hx hk => ok_inv hk (wpAny_Constant_none (isNot_none (wpAny_truthy_bool ⟨w₁, p, congrArg (fun b => some (!b)) (none_eq hx).symm⟩))))⟩
theorem Sim.bindT {a : E} {e : Expr} {α : Type} {r : Res α} {k : V → St → Option (Res α × St)} {R : Bool → Shared → Prop} (ha : Sim G n cx a e) (X : Pt G n cx) (A0 : Ahead w₀ s₀ X.w X.s) (hev : bindM (X.ev a) k = some (r, σ'))
    (ht : ∀ x σ₁, k x σ₁ = some (r, σ') → ∃ t, truthV σ₁ x = some t) (hk : ∀ x t w₁ σ₁ s₁ (_ : Post G X.w X.s w₁ σ₁ s₁), truthV σ₁ x = some t → k x σ₁ = some (r, σ') → R t s₁) :
    wpAny G.M X.A (isTrue e X.env (eval e X.env)) R (QX G w₀ s₀ X.envs r σ') X.s := by
  cases h1 : X.ev a with
  | none => rw [h1] at hev; exact no hev
  | some q =>
    rw [h1] at hev
    obtain ⟨x | x, σ₁⟩ := q
    · exact wpAny_mono (ha.t X _ _ h1 fun _ q => by cases q; exact ht _ _ hev) (fun v s₁ ⟨w₁, p, hv⟩ => hk _ _ _ _ _ p hv hev) fun _ _ q => q.elim
    · cases hev
      exact wpAny_mono (ha.t X _ _ h1 fun _ q => by cases q) (fun _ _ q => q.elim) fun _ _ q => q.mono A0
theorem not_inv {σ₁ σ' : St} {x : V} {r : Res V} (h : retB ((truthV σ₁ x).map (!·)) σ₁ = some (r, σ')) : ∃ t, truthV σ₁ x = some t ∧ r = .ok (.bool (!t)) ∧ σ' = σ₁ := by
  obtain ⟨t, ht, e⟩ := Option.map_eq_some_iff.mp h
  obtain ⟨t', ht', rfl⟩ := Option.map_eq_some_iff.mp ht
  cases e
  exact ⟨t', ht', rfl, rfl⟩
theorem sim_not {a : E} {l : Expr} {pos : Pos} (ha : Sim G n cx a l) : Sim G n cx (.not a) (.UnaryOp .Not l pos) := by
  refine ⟨fun X r σ' hev => wpAny_UnaryOp (ha.bind X .refl hev fun x xv w₁ σ₁ s₁ p hx hk => ?_), fun X r σ' hev _ => wpAny_isTrue_Not (ha.bindT X .refl hev (fun x σ₁ hk => let ⟨t, ht, _⟩ := not_inv hk; ⟨t, ht⟩) fun x t w₁ σ₁ s₁ p ht hk => ?_)⟩
  · obtain ⟨t, ht, rfl, rfl⟩ := not_inv hk
    exact not_value (truthV_sound hx ht ⟨w₁, p, .bool _⟩)
  · obtain ⟨t', ht', rfl, rfl⟩ := not_inv hk
    rw [ht] at ht'; cases ht'
    exact ⟨w₁, p, rfl⟩
theorem sim_neg {a : E} {l : Expr} {pos : Pos} (ha : Sim G n cx a l) : Sim G n cx (.neg a) (.UnaryOp .USub l pos) :=
  .of (fun X r σ' hev => wpAny_UnaryOp (ha.bind X .refl hev fun x xv w₁ σ₁ s₁ p hx hk => retV_inv hk fun z hz => by
    obtain ⟨i, rfl, hz⟩ := withInt_inv hz
    obtain ⟨t, rfl⟩ := hx.intv
    cases hz
    exact PySem.P.neg_int (p.ahead.out p.S.outI))) fun _ _ => rfl
end
end Lw
namespace Lw
open PySem PySem.W PySem.Calls PyProof.Rows
abbrev Sims (G : Gl) (n : Nat) (cx : Cxt) : List E → List Expr → Prop := All2 fun a e => notStar e = true ∧ Sim G n cx a e
noncomputable def opB (isAnd : Bool) : BoolOp := if isAnd then .And else .Or
section
variable {G : Gl} {n : Nat} {cx : Cxt} {w w' w₀ : Wd} {s s' s₀ : Shared} {σ σ' : St} {A : Around} {env : Env} {Ex : Value → Shared → Prop} {Q : Value → Shared → Prop} {x y : Value} {isAnd : Bool} {pos : Pos}
theorem boolOp_more {x y : Sem Value} {rest : List (Sem Value)}
    (h : wpAny G.M A x (fun v s₁ => wpAny G.M A (truthy v) (fun t s₂ => if t = isAnd then wpAny G.M A (boolOp pos (opB isAnd) (y :: rest)) Q Ex s₂ else Q v s₂) Ex s₁) Ex s) :
    wpAny G.M A (boolOp pos (opB isAnd) (x :: y :: rest)) Q Ex s := by
  show wpAny G.M A (do
    let v ← x
    standAt pos
    let t ← holding [v] (truthy v)
    match opB isAnd, t with
    | .And, false | .Or, true => pure v
    | _, _ => boolOp pos (opB isAnd) (y :: rest)) Q Ex s
  refine wpAny_bind (wpAny_mono h (fun v s₁ q => wpAny_bind (wpAny_standAt (wpAny_bind (wpAny_holding (wpAny_mono q (fun t s₂ q => ?_) fun _ _ q => q))))) fun _ _ q => q)
  cases isAnd <;> cases t <;> first | exact q | exact wpAny_pure q
theorem allTrue_more {x : Expr} {rest : List Expr} {Q : Bool → Shared → Prop}
    (h : wpAny G.M A (isTrue x env (eval x env)) (fun t s₁ => if t = isAnd then wpAny G.M A (allTrue (opB isAnd) rest env) Q Ex s₁ else Q t s₁) Ex s) : wpAny G.M A (allTrue (opB isAnd) (x :: rest) env) Q Ex s := by
  cases isAnd
  · exact wpAny_allTrue_Or_cons (wpAny_mono h (fun t s₁ q => by cases t <;> exact q) fun _ _ q => q)
  · exact wpAny_allTrue_And_cons (wpAny_mono h (fun t s₁ q => by cases t <;> exact q) fun _ _ q => q)
theorem allTrue_nil {Q : Bool → Shared → Prop} (h : Q isAnd s) : wpAny G.M A (allTrue (opB isAnd) [] env) Q Ex s := by
  cases isAnd <;> exact wpAny_pure h
noncomputable def Pt.evBool (X : Pt G n cx) (isAnd : Bool) (es : List E) : RV := Lw.evBool G.P (run G.P n) X.hd isAnd es X.ρ X.σ
theorem evBool_sound {es : List E} {vs : List Expr} (hes : Sims G n cx es vs) :
    ∀ (X : Pt G n cx) (r : Res V), Ahead w₀ s₀ X.w X.s → X.evBool isAnd es = some (r, σ') → wpAny G.M X.A (boolOp pos (opB isAnd) (evalEach vs X.env)) (QV G (VR G) w₀ s₀ r σ') (QX G w₀ s₀ X.envs r σ') X.s := by
  induction hes with
  | nil => exact fun X r _ hev => no hev
  | cons ha hr ih =>
    intro X r A0 hev
    cases hr with
    | nil => exact ha.2.bind X A0 hev fun x xv w₁ σ₁ s₁ p hx hk => ok_inv hk ⟨w₁, A0.post p, hx⟩
    | cons hb hr =>
      refine boolOp_more (ha.2.bind X A0 hev fun x xv w₁ σ₁ s₁ p hx hk => ?_)
      obtain ⟨t, ht, hk⟩ := onO_inv hk
      refine truthV_sound hx ht ?_
      by_cases q : t = isAnd
      · rw [if_pos q] at hk ⊢; exact ih (X.to p) r (A0.step p) hk
      · rw [if_neg q] at hk ⊢; exact ok_inv hk ⟨w₁, A0.post p, hx⟩
theorem evBool_test {es : List E} {vs : List Expr} (hes : Sims G n cx es vs) :
    ∀ (X : Pt G n cx) (r : Res V), Ahead w₀ s₀ X.w X.s → X.evBool isAnd es = some (r, σ') → (∀ a, r = .ok a → ∃ t, truthV σ' a = some t) →
      wpAny G.M X.A (allTrue (opB isAnd) vs X.env) (QV G (fun _ a t => truthV σ' a = some t) w₀ s₀ r σ') (QX G w₀ s₀ X.envs r σ') X.s := by
  induction hes with
  | nil => exact fun X r _ hev _ => no hev
  | cons ha hr ih =>
    intro X r A0 hev ht
    cases hr with
    | nil =>
      refine allTrue_more (ha.2.bindT X A0 hev (fun x σ₁ hk => by cases hk; exact ht _ rfl) fun x t w₁ σ₁ s₁ p htx hk => ?_)
      cases hk
      by_cases q : t = isAnd
      · rw [if_pos q]; exact allTrue_nil (q ▸ ⟨w₁, A0.post p, htx⟩)
      · rw [if_neg q]; exact ⟨w₁, A0.post p, htx⟩
    | cons hb hr =>
      refine allTrue_more (ha.2.bindT X A0 hev (fun x σ₁ hk => let ⟨t, ht, _⟩ := onO_inv hk; ⟨t, ht⟩) fun x t w₁ σ₁ s₁ p htx hk => ?_)
      obtain ⟨t', ht', hk⟩ := onO_inv hk
      rw [htx] at ht'; cases ht'
      by_cases q : t = isAnd
      · rw [if_pos q] at hk ⊢; exact ih (X.to p) r (A0.step p) hk ht
      · rw [if_neg q] at hk ⊢; cases hk; exact ⟨w₁, A0.post p, htx⟩
theorem sim_bool {es : List E} {vs : List Expr} (h : Sims G n cx es vs) : Sim G n cx (.bool isAnd es) (.BoolOp (opB isAnd) vs pos) :=
  ⟨fun X r _ hev => evBool_sound h X r .refl hev, fun X r _ hev ht => wpAny_isTrue_BoolOp (evBool_test h X r .refl hev ht)⟩
noncomputable def Pt.evs (X : Pt G n cx) (es : List E) : Option (Res (List V) × St) := Lw.evs G.P (run G.P n) X.hd es X.ρ X.σ
theorem star_plain {e : Expr} {rest : List Expr} (h : notStar e = true) : starEach (e :: rest) env = (false, eval e env) :: starEach rest env := by
  cases e <;> first | rfl | exact noB h
theorem evs_assoc {α : Type} {a : E} {r' : List E} {k : List V → St → Option (Res α × St)} (X : Pt G n cx) : bindM (X.evs (a :: r')) k = bindM (X.ev a) fun x σ => bindM (Lw.evs G.P (run G.P n) X.hd r' X.ρ σ) fun xs σ => k (x :: xs) σ := by
  show bindM (bindM (X.ev a) _) k = _
  cases X.ev a with
  | none => rfl
  | some q =>
    obtain ⟨x | x, σ₁⟩ := q
    · show bindM (bindM (Lw.evs _ _ _ r' _ σ₁) _) k = bindM (Lw.evs _ _ _ r' _ σ₁) _
      cases Lw.evs G.P (run G.P n) X.hd r' X.ρ σ₁ with
      | none => rfl
      | some q => obtain ⟨_ | _, _⟩ := q <;> rfl
    · rfl
theorem Sims.bind {es : List E} {xs : List Expr} (hes : Sims G n cx es xs) : ∀ {α : Type} {k : List V → St → Option (Res α × St)} {r : Res α} {R : List Value → Shared → Prop} (X : Pt G n cx), Ahead w₀ s₀ X.w X.s → bindM (X.evs es) k = some (r, σ') →
    (∀ x xv w₁ σ₁ s₁ (_ : Post G X.w X.s w₁ σ₁ s₁), VRs G w₁ x xv → k x σ₁ = some (r, σ') → R xv s₁) → wpAny G.M X.A (spliced (backTo pos (starEach xs X.env))) R (QX G w₀ s₀ X.envs r σ') X.s := by
  induction hes with
  | nil => exact fun X A0 hev hk => wpAny_items_nil (hk _ _ _ _ _ X.S.post .nil hev)
  | cons ha hr ih => exact fun X A0 hev hk => wpAny_items_cons (ha.2.bind X A0 (evs_assoc X ▸ hev) fun x xv w₁ σ₁ s₁ p hx h1 => ih (X.to p) (A0.step p) h1 fun y yv w₂ σ₂ s₂ q hy h2 => hk _ _ _ _ _ (p.ahead.post q) (.cons (hx.mono q.hw.sub) hy) h2) (star_plain ha.1)
theorem Base.sys {h : Heap} {D : Addr} (B : Base G w) (S : SR G w σ h) (hD : ∀ b o, h.get? b = some o → b < D) : D ≠ sysModules := by
  obtain ⟨o, e, _⟩ := B.g
  have h2 := hD _ _ (S.at e)
  intro q; subst q
  revert h2; decide
theorem mkL_inv {mt : Bool} {vs : List V} {r : Res V} (h : mkL mt vs σ = some (r, σ')) : (r = .ok (.ref σ.n) ∧ σ' = σ.new (.list false vs)) ∨ (r = .ok (.lst vs) ∧ σ' = σ) := by
  cases mt <;> cases h
  · exact .inr ⟨rfl, rfl⟩
  · exact .inl ⟨rfl, rfl⟩
theorem SR.refNew (S : SR G w σ s.heap) {p : Addr × Addr} : VR G (w.new p) (.ref σ.n) (.ref p.1) := .ref (by rw [S.n]; exact Wd.new_at)
theorem mkL_at {mt : Bool} {vs : List V} {out : Array Value} {r : Res V} {h' : Heap} {D : Addr} {e tk : Nat} (S : SR G w σ s.heap) (hv : VRs G w vs out.toList) (hl : vs.length ≤ lim) (hm : mkL mt vs σ = some (r, σ'))
    (hn : s.heap.get? D = none) (k : ∀ b o, s.heap.get? b = some o → h'.get? b = some o) (hD : h'.get? D = some (listObj out e)) : QV G (VR G) w s r σ' (.ref D) { s with heap := h', toks := tk } := by
  rcases mkL_inv hm with ⟨rfl, rfl⟩ | ⟨rfl, rfl⟩
  · have le := Wd.new_lt (p := (D, D)) S hn hn
    exact ⟨_, ⟨.of _ _ _, le, S.alloc (p := (D, D)) hn hn k ⟨_, hD⟩ ⟨_, hD⟩ ⟨rfl, out, e, hD, Wd.new_1 (p := (D, D)), hv.mono le.sub, hl⟩⟩, S.refNew⟩
  · have le := Wd.le_set (x := .fix (listObj out e)) (S.fresh hn)
    exact ⟨_, ⟨.of _ _ _, le, S.put hn k hD⟩, .lst Wd.set_at rfl rfl (hv.mono le.sub) hl⟩
theorem mkL_new {mt : Bool} {vs : List V} {out : Array Value} {r : Res V} {e tk : Nat} (S : SR G w σ s.heap) (hv : VRs G w vs out.toList) (hl : vs.length ≤ lim) (hm : mkL mt vs σ = some (r, σ')) :
    QV G (VR G) w s r σ' (.ref s.heap.objs.size) { s with heap := s.heap.push (listObj out e), toks := tk } := mkL_at S hv hl hm (get_size _) (push_keeps _ _) (Heap.get?_push_size _ rfl)
theorem Ahead.qv {α β : Type} {R : Wd → α → β → Prop} {r : Res α} {v : β} (A0 : Ahead w₀ s₀ w s) (h : QV G R w s r σ' v s') : QV G R w₀ s₀ r σ' v s' := by
  cases r with
  | ok a => exact A0.out h
  | exc => exact h
theorem sim_list {mt : Bool} {es : List E} {vs : List Expr} (h : Sims G n cx es vs) : Sim G n cx (.list mt es) (.List vs pos) :=
  .of (fun X r σ' hev => wpAny_List (h.bind X .refl hev fun x xv w₁ σ₁ s₁ p hx hk =>
    have hk := if_inv hk
    ⟨All2.length hx ▸ lim_size0 hk.1, p.ahead.qv (mkL_new (out := xv.toArray) (tk := s₁.toks) p.S hx hk.1 hk.2)⟩)) fun _ _ => rfl
theorem sim_tup {es : List E} {vs : List Expr} {k : Nat} (h : Sims G n cx es vs) : Sim G n cx (.tup es) (.Tuple vs k pos) :=
  .of (fun X r σ' hev => wpAny_Tuple (h.bind X .refl hev fun x xv w₁ σ₁ s₁ p hx hk => by
    obtain ⟨hl, hk⟩ := if_inv hk
    cases hk
    exact ⟨All2.length hx ▸ lim_size0 hl, p.ahead.out (p.S.freeze (tk := s₁.toks) (.tup Wd.set_at rfl rfl (VRs.mono (Wd.le_set (p.S.fresh (get_size _))).sub hx) hl) rfl)⟩)) fun _ _ => rfl
end
end Lw
namespace Lw
open PySem PySem.W PySem.Calls PyProof.Rows
theorem map_inj : ∀ (x y : List Char), x.map Char.toNat = y.map Char.toNat → x = y
  | [], [], _ => rfl
  | [], _ :: _, h => nomatch h
  | _ :: _, [], h => nomatch h
  | c :: r, d :: t, h => by
    rw [List.map_cons, List.map_cons, List.cons.injEq] at h
    rw [show c = d from Char.ext (UInt32.toNat_inj.mp h.1), map_inj r t h.2]
theorem ofString_inj {a b : String} (h : Str.ofString a = Str.ofString b) : a = b := by
  rw [Str.ofString_eq_toList, Str.ofString_eq_toList] at h
  exact String.toList_inj.mp (map_inj _ _ (congrArg (fun x : Str => x.cps.toList) h))
theorem ofString_ne {a b : String} (h : a ≠ b) : (Str.ofString a == Str.ofString b) = false := beq_eq_false_iff_ne.mpr fun q => h (ofString_inj q)
section
variable {G : Gl} {n : Nat} {cx : Cxt} {w w' w₀ : Wd} {s s' s₀ : Shared} {σ σ' : St} {A : Around} {env : Env} {Ex : Value → Shared → Prop} {Q : Value → Shared → Prop} {x y : Value} {pos : Pos}
theorem wpAny_attributeBase {o : Expr} {attr : Str} {whole : Sem Value} (hs : notSuper o = true) (h : wpAny G.M A whole Q Ex s) : wpAny G.M A (attributeBase o attr env whole) Q Ex s := by
  cases o with
  | Call f as ks p =>
    cases f with
    | Name id q =>
      cases as with
      | nil =>
        cases ks with
        | nil =>
          have hid : (!(id == ("super" : Str))) = true := hs
          have h1 : (id != ("super" : Str) || attr == "__class__" || env.kindOf "super" != some .globalImplicit || env.kindOf "__class__" != some .free) = true := by
            rw [show (id != ("super" : Str)) = true from hid]; rfl
          have e : attributeBase (.Call (.Name id q) [] [] p) attr env whole = whole := by
            unfold attributeBase
            exact if_pos h1
          rw [e]; exact h
        | cons => exact h
      | cons => exact h
    | _ => exact h
  | _ => exact h
theorem wpAny_Attr {value : Expr} {attr : Str} (hs : notSuper value = true)
    (h : wpAny G.M A (eval value env) (fun o s₁ => wpAny G.M A (getAttr o attr true) Q Ex s₁) Ex s) : wpAny G.M A (eval (.Attribute value attr pos) env) Q Ex s := by
  show wpAny G.M A (do
    let o ← attributeBase value attr env (eval value env)
    standAt pos.atName
    let r ← holding [o] (getAttr o attr true)
    letTemporaryGo value o r
    pure r) Q Ex s
  exact wpAny_bind (wpAny_attributeBase hs (wpAny_mono h (fun o s₁ q => wpAny_bind (wpAny_standAt (wpAny_bind (wpAny_holding (wpAny_mono q (fun r s₂ q => wpAny_bind (wpAny_letTemporaryGo (wpAny_pure q))) fun _ _ q => q))))) fun _ _ q => q))
theorem fs_norf {fs : List (String × V)} {es : List DictEntry} (r : FsR G w fs es) : es.any (·.refKey) = false := by
  induction r with
  | nil => rfl
  | cons a _ ih => obtain ⟨t, x, rfl, _⟩ := a; rw [List.any_cons, ih]; rfl
theorem fs_find {fs : List (String × V)} {es : List DictEntry} (r : FsR G w fs es) (a : String) :
    (∀ v, lk fs a = some v → ∃ e, es.find? (fun e => e.key.isStr (Str.ofString a)) = some e ∧ VR G w v e.val) ∧ (lk fs a = none → es.find? (fun e => e.key.isStr (Str.ofString a)) = none) := by
  induction r with
  | nil => exact ⟨fun v e => (nomatch e), fun _ => rfl⟩
  | @cons bv d fs es hv _ ih =>
    obtain ⟨b, v⟩ := bv
    obtain ⟨t, x, rfl, hv⟩ := hv
    by_cases h : b = a
    · subst h
      have e1 : lk ((b, v) :: fs) b = some v := by simp [lk]
      rw [e1, List.find?_cons_of_pos (by simp [Value.isStr])]
      exact ⟨fun u e => ⟨_, rfl, Option.some.inj e ▸ hv⟩, fun e => (nomatch e)⟩
    · have e1 : lk ((b, v) :: fs) a = lk fs a := by simp [lk, h]
      rw [e1, List.find?_cons_of_neg (by simp only [Value.isStr, ofString_ne h]; exact Bool.false_ne_true)]; exact ih
theorem fs_look {fs : List (String × V)} {es : List DictEntry} {k : Nat} (r : FsR G w fs es) (a : String) :
    (∀ v, lk fs a = some v → ∃ x, lookIn (Str.ofString a) (dictOf es k) = some (some x) ∧ VR G w v x) ∧ (lk fs a = none → lookIn (Str.ofString a) (dictOf es k) = some none) := by
  refine ⟨fun v e => ?_, fun e => ?_⟩
  · obtain ⟨d, q, hv⟩ := (fs_find r a).1 v e
    refine ⟨d.val, ?_, hv⟩
    unfold lookIn dictOf
    simp only [q]
  · unfold lookIn dictOf
    simp only [(fs_find r a).2 e]
    rw [fs_norf r]; rfl
theorem VR.handed {a : V} (h : VR G w a x) : handedIn x = true := by cases h <;> rfl
structure ClsOk (K : Frag) (attrs : List String) (C : Addr) : Prop where
  ga : findIn K (.ref C) "__getattribute__" = some (some (.builtin "object.__getattribute__"))
  gt : findIn K (.ref C) "__getattr__" = some none
  hd : hasDictIn K C = true
  sa : findIn K (.ref C) "__setattr__" = some (some (.builtin "object.__setattr__"))
  po : plainOver K C = true
  mi : makesIn K C = true
  at_ : ∀ a ∈ attrs, findIn K (.ref C) (Str.ofString a) = some none
theorem clsOk_parts {K : Frag} {attrs : List String} {C : Addr} (h : clsOk K attrs C = true) : ClsOk K attrs C := by
  unfold clsOk at h
  simp only [Bool.and_eq_true, beq_iff_eq, List.all_eq_true] at h
  obtain ⟨⟨⟨⟨⟨⟨a, b⟩, d⟩, e⟩, f⟩, g⟩, i⟩ := h
  exact ⟨a, b, d, e, f, g, i⟩
structure InstOf (G : Gl) (w : Wd) (h : Heap) (i : Nat) (p : Addr × Addr) (fs : List (String × V)) (C : Addr) (es : List DictEntry) (k : Nat) : Prop where
  I : InstAt h p.1 (instObj C p.2) C (some (dictOf es k))
  ok : ClsOk G.K G.com.attrs C
  fs : FsR G w fs es
  ne : p.1 ≠ p.2
theorem inst_of {i : Nat} {cn : String} {fs : List (String × V)} {p : Addr × Addr} (B : Base G w) (S : SR G w σ s.heap) (hp : w.φ[i]? = some p) (hg : σ.get i = some (.inst cn fs)) :
    ∃ C es k, InstOf G w s.heap i p fs C es k ∧ clsAt G.K cn = some C ∧ cn ∈ G.com.cls ∧ w.m p.2 = some (.obj i) ∧ w.m p.1 = some (.obj i) := by
  obtain ⟨m2, C, es, k, h1, m1, h2, ne, hcn, hC, hfs⟩ := S.ref hp hg
  obtain ⟨C', hC', hok⟩ := B.cls _ hcn
  rw [hC] at hC'; cases hC'
  exact ⟨C, es, k, ⟨⟨h1, rfl, rfl, h2⟩, clsOk_parts hok, hfs, ne⟩, hC, hcn, m2, m1⟩
theorem field_inv {i : Nat} {a : String} {o : O} {v : V} (h : O.field a o = some v) : ∃ c fs, o = .inst c fs ∧ lk fs a = some v := by
  cases o with
  | inst c fs => exact ⟨c, fs, rfl, h⟩
  | _ => exact no h
theorem attr_sound {o v : V} {a : String} (B : Base G w) (S : SR G w σ s.heap) (ho : VR G w o x) (ha : a ∈ G.com.attrs) (hv : attrV σ o a = some v) : wpAny G.M A (getAttr x (Str.ofString a) true) (Out G (VR G) w s v σ) Ex s := by
  obtain ⟨i, rfl, hv⟩ := withRef_inv hv
  obtain ⟨ob, hg, hv⟩ := onO_inv hv
  obtain ⟨c, fs, rfl, hv⟩ := field_inv (i := i) hv
  obtain ⟨p, hp, rfl⟩ := ho.refv
  obtain ⟨C, es, k, I, _⟩ := inst_of B S hp hg
  obtain ⟨y, hy, hvy⟩ := (fs_look (k := k) I.fs a).1 v hv
  refine get_value (B.kin S) I.I I.ok.ga ?_ hvy.handed ⟨w, S.postH, hvy⟩
  have g3 := I.ok.hd
  unfold hasDictIn at g3
  unfold findObj
  cases hcl : clsIn G.K C with
  | none => rw [hcl] at g3; exact noB g3
  | some cd =>
    rw [hcl] at g3
    simp only [Option.bind_some, I.ok.at_ a ha]
    unfold W.ownOf
    rw [if_pos (show cd.hasDict = true from g3)]
    simp only [hy, Option.bind_some]
theorem Pt.attr (X : Pt G n cx) {a : String} (h : cx.attrs.contains a = true) : a ∈ G.com.attrs := X.hn.attrs ▸ List.contains_iff_mem.mp h
theorem sim_attr {o : E} {a : String} {l : Expr} (hs : notSuper l = true) (hat : cx.attrs.contains a = true) (ho : Sim G n cx o l) : Sim G n cx (.attr o a) (.Attribute l (Str.ofString a) pos) :=
  .of (fun X r σ' hev => wpAny_Attr hs (ho.bind X .refl hev fun x xv w₁ σ₁ s₁ p hx hk => retV_inv hk fun z hz => wp_out p.ahead (attr_sound (X.to p).B p.S hx (X.attr hat) hz))) fun _ _ => rfl
theorem place_inv {k : Int} {m j : Nat} (h : place k m = some j) : k.natAbs < 2 ^ 60 ∧ ((0 ≤ k ∧ k < m ∧ j = k.toNat) ∨ (k < 0 ∧ 0 ≤ k + m ∧ j = (k + m).toNat)) := by
  obtain ⟨h1, h⟩ := if_inv h
  refine ⟨h1, ?_⟩
  by_cases h0 : 0 ≤ k
  · rw [if_pos h0] at h; obtain ⟨h2, h⟩ := if_inv h; cases h; exact .inl ⟨h0, h2, rfl⟩
  · rw [if_neg h0] at h; obtain ⟨h2, h⟩ := if_inv h; cases h; exact .inr ⟨Int.not_le.mp h0, h2, rfl⟩
theorem place_seq {k : Int} {m j : Nat} (h : place k m = some j) : seqIndex? k m = some j ∧ j < m ∧ -(2 ^ 63) ≤ k ∧ k < 2 ^ 63 := by
  obtain ⟨hb, h⟩ := place_inv h
  have b1 : -(2 ^ 63) ≤ k ∧ k < 2 ^ 63 := by lia
  rcases h with ⟨h0, h1, rfl⟩ | ⟨h0, h1, rfl⟩
  · exact ⟨seqIndex_of h0 h1, (Int.toNat_lt h0).mpr h1, b1⟩
  · have h2 : k + m < m := Int.lt_of_lt_of_le (Int.add_lt_add_right h0 m) (Int.le_of_eq (Int.zero_add m))
    refine ⟨?_, (Int.toNat_lt h1).mpr h2, b1⟩
    unfold seqIndex?
    simp only [if_pos h0]
    exact if_pos (Bool.and_eq_true_iff.mpr ⟨decide_eq_true h1, decide_eq_true h2⟩)
theorem getItem_listAny {l : Addr} {items : Array Value} {k : Int} {t : Tok} {j : Nat} (hl : s.heap.IsList l items) (hp : place k items.size = some j) (hx : items[j]? = some x) (h : Q x s) : wpAny G.M A (getItem (.ref l) (.int k t)) Q Ex s := by
  obtain ⟨_, _, b1, b2⟩ := place_seq hp
  rcases (place_inv hp).2 with ⟨h0, h1, rfl⟩ | ⟨h0, h1, rfl⟩
  · exact wpAny_getItem_list hl h0 b2 hx h
  · exact wpAny_getItem_list_neg hl h0 (by lia) b1 hx h
theorem subs_plain {ie : Expr} {o i : Value} (h : notSliceE ie = true) : subscripted ie false o i = operate [o, i] (getItem o i) := by
  cases ie <;> first | rfl | exact noB h
theorem VRs.getArr {vs : List V} {xs : Array Value} {j : Nat} {v : V} (r : VRs G w vs xs.toList) (h : vs[j]? = some v) : ∃ x, xs[j]? = some x ∧ VR G w v x :=
  let ⟨x, e, hv⟩ := All2.get r h; ⟨x, Array.getElem?_toList ▸ e, hv⟩
theorem strOk_at {x : Str} {j cp : Nat} (h : sOk x = true) (e : x.cps[j]? = some cp) : sOk ⟨#[cp]⟩ = true := by
  refine sOk_iff.mpr ⟨?_, (by decide : 1 ≤ lim)⟩
  have h := (sOk_iff.mp h).1
  unfold PyData.strOk at *
  obtain ⟨hj, e⟩ := Array.getElem?_eq_some_iff.mp e
  have := Array.all_eq_true.mp h j hj
  rw [e] at this
  simpa using this
theorem at1_inv {i v : V} {vs : List V} {xs : Array Value} (hi : VR G w i y) (r : VRs G w vs xs.toList) (h : withInt i (at1 vs) = some v) : ∃ k t j z, y = .int k t ∧ place k xs.size = some j ∧ xs[j]? = some z ∧ VR G w v z := by
  obtain ⟨k, rfl, h⟩ := withInt_inv h
  obtain ⟨t, e⟩ := hi.intv
  obtain ⟨j, hp, hj⟩ := Option.bind_eq_some_iff.mp h
  obtain ⟨z, hz, hvz⟩ := VRs.getArr r hj
  exact ⟨k, t, j, z, e, r.size ▸ hp, hz, hvz⟩
theorem SR.outT {v : V} {z : Value} {tk : Nat} (S : SR G w σ s.heap) (hv : VR G w v z) : Out G (VR G) w s v σ z { s with toks := tk } := ⟨w, S.postH, hv⟩
theorem idxD_sound {ve ie : Expr} {κ : Type} [DecidableEq κ] {knd : PySem.KeyKind G.prog G.ω κ} {k : κ} {l : Bool} {i : Nat} {v : V} {es : List (κ × V)} {p : Addr × Addr} (hns : notSliceE ie = true) (S : SR G w σ s.heap) (hk : knd.is k y = true) (r : DRel G w s.heap i p knd l es) (hv : lk es k = some v) :
    wpAny G.M A (subscriptTail ve ie (.ref p.1) y) (Out G (VR G) w s v σ) Ex s :=
  let ⟨_, o, _, r1, _, r2, r3, _⟩ := r
  let ⟨_, hz, hvz⟩ := (lk_valueAt r3 k).1 v hv
  have hm := (Heap.dictOf_iff.mpr ⟨o, r1, r2⟩).mapOf
  tail_any hm.typeIs slot_dict_getitem.lookup (wpAny_getItem_of hk hm hz (S.outT hvz)) (subs_plain hns)
theorem idxV_sound {ve ie : Expr} {o i v : V} (hns : notSliceE ie = true) (S : SR G w σ s.heap) (ho : VR G w o x) (hi : VR G w i y) (hv : idxV σ o i = some v) : wpAny G.M A (subscriptTail ve ie x y) (Out G (VR G) w s v σ) Ex s := by
  have list : ∀ {l : Addr} {xs : Array Value} {vs : List V}, s.heap.IsList l xs → VRs G w vs xs.toList → withInt i (at1 vs) = some v → wpAny G.M A (subscriptTail ve ie (.ref l) y) (Out G (VR G) w s v σ) Ex s := fun hl e4 hv => by
    obtain ⟨k, t, j, z, rfl, hp, hz, hvz⟩ := at1_inv hi e4 hv
    exact tail_any hl.typeIs slot_list_getitem.lookup (getItem_listAny hl hp hz (S.outT (tk := s.toks) hvz)) (subs_plain hns)
  cases o with
  | lst vs => obtain ⟨a, xs, rfl, hl, va, _⟩ := ho.lstv S; exact list hl va hv
  | tup vs =>
    obtain ⟨a, o, xs, m, rfl, h1, h2, h3, va, _⟩ := ho.tupv S
    obtain ⟨k, t, j, z, rfl, hp, hz, hvz⟩ := at1_inv hi va hv
    obtain ⟨q1, q2, q3, q4⟩ := place_seq hp
    exact item_tupleT (l := xs.toList) (by exact ⟨o, h1, h2, m, h3⟩) q3 q4 (by rw [Array.length_toList]; exact q1) (by rw [Array.getElem?_toList]; exact hz) (S.outT (tk := s.toks) hvz) (subs_plain hns)
  | str t =>
    obtain ⟨u, rfl, k⟩ := ho.strv
    obtain ⟨i', rfl, hv⟩ := withInt_inv hv
    obtain ⟨t', rfl⟩ := hi.intv
    obtain ⟨j, hp, hv⟩ := Option.bind_eq_some_iff.mp hv
    obtain ⟨cp, hc, rfl⟩ := Option.map_eq_some_iff.mp hv
    obtain ⟨q1, q2, q3, q4⟩ := place_seq hp
    refine tail_any (typeIs_str s _ _) PySem.F.slot_str_getitem.lookup (PyProof.Rows.getItem_str (c := cp) ?_ ?_ (S.outT (.str _ _ (strOk_at k hc)))) (subs_plain hns)
    · rw [Bool.or_eq_false_iff]; exact ⟨decide_eq_false (Int.not_lt.mpr q3), decide_eq_false (Int.not_le.mpr q4)⟩
    · show (seqIndex? _ t.cps.size).bind _ = _
      rw [q1]; exact hc
  | ref r =>
    obtain ⟨p, hp, rfl⟩ := ho.refv
    obtain ⟨ob, hg, hv⟩ := Option.bind_eq_some_iff.mp hv
    have rr := S.ref hp hg
    cases ob with
    | list l vs => obtain ⟨_, xs, k, r1, _, r2, _⟩ := rr; exact list ⟨_, r1, rfl, _, rfl⟩ r2 hv
    | di l es =>
      obtain ⟨k, rfl, hv⟩ := withInt_inv hv
      obtain ⟨tk, rfl⟩ := hi.intv
      exact idxD_sound hns S (isInt_self _ _) rr hv
    | ds l es =>
      obtain ⟨k, rfl, hv⟩ := withStr_inv hv
      obtain ⟨tk, rfl, _⟩ := hi.strv
      exact idxD_sound hns S (strKind_is _ _ _ _) rr.1 hv
    | inst => exact no hv
  | _ => exact no hv
theorem sim_idx {o i : E} {l j : Expr} (hns : notSliceE j = true) (ho : Sim G n cx o l) (hi : Sim G n cx i j) : Sim G n cx (.idx o i) (.Subscript l j pos) :=
  .of (fun X r σ' hev => Subscript_ (ho.bind X .refl hev fun x xv w₁ σ₁ s₁ p hx hk => hi.bind (X.to p) p.ahead hk fun y yv w₂ σ₂ s₂ q hy hk =>
    retV_inv hk fun z hz => wp_out (p.ahead.step q) (idxV_sound hns q.S (hx.mono q.hw.sub) hy hz))) fun _ _ => rfl
end
end Lw
namespace Lw
open PySem PySem.W PySem.Calls PyProof.Rows
theorem cutL_eq {α : Type} (xs : List α) (a b : Nat) : cutL xs a b = (xs.drop a).take (b - a) := List.drop_take
theorem cutL_len {α : Type} (xs : List α) (a b : Nat) : (cutL xs a b).length ≤ xs.length := by
  unfold cutL; rw [List.length_drop, List.length_take]; exact Nat.le_trans (Nat.sub_le ..) (Nat.min_le_right ..)
theorem strIdx_plain (l u : Option Int) (m : Nat) : Builtin.Str.strSliceIndices l u 1 m = sliceRange ((l.elim 0 (clipAt m) : Nat) : Int) ((u.elim m (clipAt m) : Nat) : Int) 1 := by
  unfold Builtin.Str.strSliceIndices
  cases l <;> cases u <;> simp [clipAt_cast]
theorem strOk_cut {x : Str} (a b : Nat) (h : sOk x = true) : sOk ⟨(cutL x.cps.toList a b).toArray⟩ = true := by
  obtain ⟨h1, h2⟩ := sOk_iff.mp h
  refine sOk_iff.mpr ⟨?_, Nat.le_trans (cutL_len x.cps.toList a b) h2⟩
  unfold PyData.strOk at *
  rw [← Array.all_toList, List.all_eq_true] at *
  exact fun y hy => h1 y (List.mem_of_mem_take (List.mem_of_mem_drop hy))
theorem clip_le {m : Nat} (i : Int) : clipAt m i ≤ m := Int.toNat_le.mpr (Int.max_le.mpr ⟨Int.natCast_nonneg _, Int.min_le_right ..⟩)
theorem clip_int (i : Int) (m : Nat) : (if 0 ≤ i then min i.toNat m else (i + m).toNat) = clipAt m i := by
  unfold clipAt
  by_cases h : 0 ≤ i
  · rw [if_pos h, if_neg (Int.not_lt.mpr h)]
    obtain ⟨k, rfl⟩ := Int.eq_ofNat_of_zero_le h
    rcases Nat.le_total k m with q | q
    · rw [Int.min_eq_left (Int.ofNat_le.mpr q), Int.max_eq_right h]; exact Nat.min_eq_left q
    · rw [Int.min_eq_right (Int.ofNat_le.mpr q), Int.max_eq_right (Int.natCast_nonneg m)]; exact Nat.min_eq_right q
  · rw [if_neg h, if_pos (Int.not_le.mp h), Int.min_eq_left (by lia)]
    rcases Int.le_total 0 (i + m) with q | q
    · rw [Int.max_eq_right q]
    · rw [Int.max_eq_left q, Int.toNat_of_nonpos q]; rfl
section
variable {G : Gl} {n : Nat} {cx : Cxt} {w w' w₀ : Wd} {s s' s₀ : Shared} {σ σ' : St} {A : Around} {env : Env} {Ex : Value → Shared → Prop} {Q : Value → Shared → Prop} {x y z : Value} {pos : Pos}
noncomputable def SimP (G : Gl) (n : Nat) (cx : Cxt) (ir : E) (l : Option Expr) : Prop := (l = none ∧ ir = .cNone) ∨ ∃ e, l = some e ∧ Sim G n cx ir e
theorem SimP.bind {α : Type} {a : E} {l : Option Expr} {k : V → St → Option (Res α × St)} {r : Res α} {R : Value → Shared → Prop} (ha : SimP G n cx a l) (X : Pt G n cx) (A0 : Ahead w₀ s₀ X.w X.s) (hev : bindM (X.ev a) k = some (r, σ'))
    (hk : ∀ x xv w₁ σ₁ s₁ (_ : Post G X.w X.s w₁ σ₁ s₁), VR G w₁ x xv → k x σ₁ = some (r, σ') → R xv s₁) : wpAny G.M X.A (evalPart l X.env) R (QX G w₀ s₀ X.envs r σ') X.s := by
  rcases ha with ⟨rfl, rfl⟩ | ⟨e, rfl, ha⟩
  · rw [evalPart_none]; exact wpAny_pure (hk _ _ _ _ _ X.S.post .none hev)
  · rw [evalPart_some]; exact ha.bind X A0 hev hk
theorem clamp_part {d m a : Nat} {lo : V} (hv : VR G w lo x) (hd : d ≤ m) (h : clamp d lo m = some a) : ∃ q : Option (Int × Tok), IsPart x (q.map (·.1)) ∧ x = partValue q ∧ (q.map (·.1)).elim d (clipAt m) = a ∧ a ≤ m := by
  cases lo with
  | none => cases hv; cases h; exact ⟨none, .none, rfl, rfl, hd⟩
  | int i =>
    obtain ⟨t, rfl⟩ := hv.intv
    have h := (clip_int i m).symm.trans (Option.some.inj h)
    exact ⟨some (i, t), .int i t, rfl, h, h ▸ clip_le i⟩
  | _ => exact no h
theorem sliceMade_post {x : Str} {t : Tok} {l u : Option (Int × Tok)} {a b : Nat} (hx : sOk x = true) (ha : (l.map (·.1)).elim 0 (clipAt x.cps.size) = a) (hb : (u.map (·.1)).elim x.cps.size (clipAt x.cps.size) = b) (hbm : b ≤ x.cps.size)
    (h : ∀ t' tk, Q (.str ⟨(cutL x.cps.toList a b).toArray⟩ t') { s with toks := tk }) : (sliceMade x t l u none).post Q s := by
  have hr : slicePicked x l u none = sliceRange (a : Int) (b : Int) 1 := by
    rw [← ha, ← hb]; exact strIdx_plain _ _ _
  have hpick : ((slicePicked x l u none).filterMap (x.cps[·]?)) = cutL x.cps.toList a b := by rw [hr, sliceRange_one, pick_run, cutL_eq]
  have hlen : (slicePicked x l u none).length = b - a := by rw [hr, sliceRange_one, List.length_map, List.length_range]
  unfold sliceMade
  split
  · rename_i hc
    simp only [Option.map_none, Option.getD_none, beq_self_eq_true, Bool.true_and, beq_iff_eq] at hc
    have hc : b - a = x.cps.size := hlen.symm.trans hc
    have h := h t s.toks
    have e : cutL x.cps.toList a b = x.cps.toList := by
      rw [cutL_eq, hc]
      by_cases h0 : a = 0
      · rw [h0]; exact List.take_of_length_le (by rw [List.length_drop, Array.length_toList]; exact Nat.sub_le ..)
      · have : x.cps.toList = [] := List.eq_nil_of_length_eq_zero (by rw [Array.length_toList]; lia)
        rw [this]; simp
    rw [e] at h
    exact h
  · rw [hpick]
    exact ⟨lim_size0 (sOk_iff.mp (strOk_cut a b hx)).2, h _ _⟩
abbrev sliceObj (y z u : Value) : Obj := { cls := .type "slice", data := .fields #[y, z, u] }
theorem IsList_keep {h h' : Heap} {a : Addr} {xs : Array Value} (k : ∀ b o, h.get? b = some o → h'.get? b = some o) (hl : h.IsList a xs) : h'.IsList a xs := let ⟨o, e, r⟩ := hl; ⟨o, k _ _ e, r⟩
theorem Ahead.push (o : Obj) : Ahead w s w { s with heap := s.heap.push o } := ⟨.of _ _ s.toks, .refl _⟩
theorem sliceV_sound {mt : Bool} {ve : Expr} {le he : Option Expr} {sp : Pos} {o lo hi : V} {r : Res V} (S : SR G w σ s.heap) (ho : VR G w o x) (hl : VR G w lo y) (hh : VR G w hi z) (hv : sliceV mt o lo hi σ = some (r, σ')) :
    wpAny G.M A (subscriptTail ve (.Slice le he none sp) x (.ref s.heap.objs.size)) (QV G (VR G) w s r σ') Ex { s with heap := s.heap.push (sliceObj y z .none) } := by
  have S' : SR G w σ (s.heap.push (sliceObj y z .none)) := S.keeps (push_keeps _ _)
  have hsl : (s.heap.push (sliceObj y z .none)).get? s.heap.objs.size = some (sliceObj y z .none) := Heap.get?_push_size _ rfl
  have lists : (onO (seqOf σ o) fun vs => cutV lo hi vs.length fun a b => mkL mt (cutL vs a b) σ) = some (r, σ') → wpAny G.M A (subscriptTail ve (.Slice le he none sp) x (.ref s.heap.objs.size)) (QV G (VR G) w s r σ') Ex { s with heap := s.heap.push (sliceObj y z .none) } := fun hv => by
    obtain ⟨vs, h1, hv⟩ := onO_inv hv
    obtain ⟨a, ha, hv⟩ := onO_inv hv
    obtain ⟨b, hb, hv⟩ := onO_inv hv
    obtain ⟨l, xs, rfl, hL, hvs, hlim⟩ := seqOf_sound S ho h1
    have hL := IsList_keep (push_keeps _ (sliceObj y z .none)) hL
    rw [hvs.size] at ha hb
    obtain ⟨ql, il, _, el, _⟩ := clamp_part hl (Nat.zero_le _) ha
    obtain ⟨qh, ih, _, eh, _⟩ := clamp_part hh (Nat.le_refl _) hb
    refine tail_any hL.typeIs slot_list_getitem.lookup (wpAny_getItem_list_slice hL ⟨_, hsl, rfl, rfl⟩ il ih .none (fun q => nomatch q) ?_ (by rw [← hvs.size]; exact lim_size0 hlim)) rfl
    rw [slicePick_plain, el, eh, ← cutL_eq]
    exact (Ahead.push _).qv (mkL_new (s := { s with heap := s.heap.push (sliceObj y z .none) }) (out := (cutL xs.toList a b).toArray) (tk := s.toks) S' (All2.drop (All2.take hvs b) a) (Nat.le_trans (cutL_len ..) hlim) hv)
  cases o with
  | str t =>
    obtain ⟨u, rfl, k⟩ := ho.strv
    obtain ⟨a, ha, hv⟩ := onO_inv hv
    obtain ⟨b, hb, hv⟩ := onO_inv hv
    obtain ⟨ql, _, e1, el, _⟩ := clamp_part hl (Nat.zero_le _) ha
    obtain ⟨qh, _, e2, eh, hbm⟩ := clamp_part hh (Nat.le_refl _) hb
    cases hv
    exact tail_any (typeIs_str _ _ _) PySem.F.slot_str_getitem.lookup (wpAny_getItem_str_slice (l := ql) (u := qh) (st := none) ⟨_, hsl, rfl, by rw [e1, e2]; rfl⟩ rfl (sliceMade_post k el eh hbm fun t' tk => ⟨w, ⟨.of _ _ _, .refl _, S'⟩, .str _ _ (strOk_cut a b k)⟩)) rfl
  | _ => exact lists hv
theorem sim_slice {mt : Bool} {o lo hi : E} {l : Expr} {le he : Option Expr} {sp : Pos} (ho : Sim G n cx o l) (hlo : SimP G n cx lo le) (hhi : SimP G n cx hi he) : Sim G n cx (.slice mt o lo hi) (.Subscript l (.Slice le he none sp) pos) :=
  .of (fun X r σ' hev => Subscript_ (ho.bind X .refl hev fun x xv w₁ σ₁ s₁ p hx hk => wpAny_Slice (hlo.bind (X.to p) p.ahead hk fun y yv w₂ σ₂ s₂ q hy hk => hhi.bind ((X.to p).to q) (p.ahead.step q) hk fun z zv w₃ σ₃ s₃ u hz hk => by
    rw [evalPart_none]
    exact wpAny_pure (wpAny_mono (sliceV_sound u.S ((hx.mono q.hw.sub).mono u.hw.sub) (hy.mono u.hw.sub) hz hk) (fun _ _ q' => ((p.ahead.step q).step u).qv q') fun _ _ q' => q')))) fun _ _ => rfl
theorem emptyDict_of {κ : Type} [DecidableEq κ] (knd : PySem.KeyKind G.prog G.ω κ) : ({ cls := .type "dict", data := .dict #[] } : Obj).IsDictOf knd [] :=
  ⟨#[], 0, ⟨rfl, rfl, rfl⟩, rfl, fun e he => by simp at he, by simpa using Pairs.nil, by simp⟩
theorem size_sys (S : SR G w σ s.heap) (B : Base G w) : s.heap.objs.size ≠ sysModules := B.sys S fun _ _ e => Heap.lt_size e
theorem sim_dict0 {b : Bool} : Sim G n cx (.dict0 b) (.Dict [] [] pos) :=
  .of (fun X r σ' hev => ok_inv hev (wpAny_Dict_empty (by
    have h0 := get_size X.s.heap
    have hD : (X.s.heap.push { cls := .type "dict", data := .dict #[] }).get? X.s.heap.objs.size = some _ := Heap.get?_push_size _ rfl
    refine ⟨_, ⟨.of _ _ X.s.toks, Wd.new_lt (p := (X.s.heap.objs.size, X.s.heap.objs.size)) X.S h0 h0, X.S.alloc h0 h0 (push_keeps _ _) ⟨_, hD⟩ ⟨_, hD⟩ ?_⟩, X.S.refNew⟩
    cases b
    · exact ⟨rfl, _, [], hD, Wd.new_1 (p := (X.s.heap.objs.size, X.s.heap.objs.size)), emptyDict_of _, .nil, Nat.zero_le _, size_sys X.S X.B⟩
    · exact ⟨⟨rfl, _, [], hD, Wd.new_1 (p := (X.s.heap.objs.size, X.s.heap.objs.size)), emptyDict_of _, .nil, Nat.zero_le _, size_sys X.S X.B⟩, fun _ q => nomatch q⟩))) fun _ _ => rfl
abbrev KeysR : List Str → List (Option Expr) → Prop := All2 fun k e => ∃ j p, e = some (.Constant (.str k) j p)
abbrev PairR (G : Gl) (w : Wd) : List (Str × V) → List (Value × Value) → Prop := All2 fun kv p => (∃ t, p.1 = .str kv.1 t) ∧ VR G w kv.2 p.2
noncomputable def pairTrees (pos : Pos) (env : Env) : List (Option Expr) → List Expr → List (Sem Value × Sem Value)
  | some k :: ks, v :: vs => (eval k env, do let x ← eval v env; standAt pos; pure x) :: pairTrees pos env ks vs
  | _, _ => []
theorem pairTrees_shape {ks : List Str} {kes : List (Option Expr)} (h : KeysR ks kes) : ∀ {ves : List Expr}, ks.length = ves.length →
    (evalEachOpt kes env).zip ((evalEach ves env).map fun v => do let x ← v; standAt pos; pure x) = ((pairTrees pos env kes ves).map fun p => (some p.1, p.2)) ∧ (pairTrees pos env kes ves).length = ks.length := by
  induction h with
  | nil => exact fun _ => ⟨rfl, rfl⟩
  | cons a _ ih =>
    obtain ⟨j, p, rfl⟩ := a
    intro ves hl
    cases ves with
    | nil => cases hl
    | cons v vs =>
      obtain ⟨h1, h2⟩ := ih (Nat.succ.inj hl)
      exact ⟨congrArg (List.cons _) h1, congrArg (· + 1) h2⟩
theorem evalPairs_bind {ks : List Str} {kes : List (Option Expr)} (hks : KeysR ks kes) : ∀ {es : List E} {ves : List Expr}, Sims G n cx es ves → ks.length = ves.length → ∀ {α : Type} {k : List V → St → Option (Res α × St)} {r : Res α} {R : List (Value × Value) → Shared → Prop} (X : Pt G n cx), Ahead w₀ s₀ X.w X.s → bindM (X.evs es) k = some (r, σ') →
    (∀ vs ps w₁ σ₁ s₁ (_ : Post G X.w X.s w₁ σ₁ s₁), PairR G w₁ (ks.zip vs) ps → vs.length = ks.length → k vs σ₁ = some (r, σ') → R ps s₁) → wpAny G.M X.A (evalPairs (pairTrees pos X.env kes ves)) R (QX G w₀ s₀ X.envs r σ') X.s := by
  induction hks with
  | nil =>
    intro es ves hes hl α k r R X A0 hev hk
    cases hes with
    | nil => exact evalPairs_nil (hk _ _ _ _ _ X.S.post .nil rfl hev)
    | cons => cases hl
  | cons a hr ih =>
    obtain ⟨j, p, rfl⟩ := a
    intro es ves hes hl α k r R X A0 hev hk
    cases hes with
    | nil => cases hl
    | cons hb hbs =>
      have p0 : Post G X.w X.s X.w X.σ { X.s with toks := X.s.toks + 1 } := X.S.postH
      refine evalPairs_cons (wpAny_Constant_str (wpAny_bind (hb.2.bind (X.to p0) (A0.step p0) (evs_assoc X ▸ hev) fun x xv w₁ σ₁ s₁ p hx h1 => wpAny_bind (wpAny_standAt (wpAny_pure ?_)))))
      exact ih hbs (Nat.succ.inj hl) ((X.to p0).to p) ((A0.step p0).step p) h1 fun vs ps w₂ σ₂ s₂ q hv hlv h2 => hk (x :: vs) _ _ _ _ (p0.ahead.post (p.ahead.post q)) (.cons ⟨⟨_, rfl⟩, hx.mono q.hw.sub⟩ hv) (congrArg (· + 1) hlv) h2
theorem PairR.kvs {kvs : List (Str × V)} {ps : List (Value × Value)} (r : PairR G w kvs ps) : ∃ es, Carries (PySem.strKind G.prog G.ω) ps es ∧ ER G w kvs es ∧ es.map (·.1) = kvs.map (·.1) := by
  induction r with
  | nil => exact ⟨[], trivial, .nil, rfl⟩
  | @cons kv p _ _ a _ ih =>
    obtain ⟨es, h1, h2, h3⟩ := ih
    obtain ⟨⟨t, e⟩, hv⟩ := a
    exact ⟨(kv.1, p.2) :: es, ⟨e ▸ strKind_is _ _ _ _, rfl, h1⟩, .cons ⟨rfl, hv⟩ h2, congrArg (List.cons _) h3⟩
theorem sim_dict {ks : List Str} {kes : List (Option Expr)} {es : List E} {ves : List Expr} (hk : KeysR ks kes) (hs : Sims G n cx es ves) (hlen : ks.length = ves.length) (h0 : ks ≠ []) (h10 : ks.length < 10) (hnd : ks.Nodup) (hok : ∀ k ∈ ks, sOk k = true) :
    Sim G n cx (.dict ks es) (.Dict kes ves pos) :=
  .of (fun X r σ' hev => by
    have sh := pairTrees_shape (env := X.env) (pos := pos) hk hlen
    have hn0 := get_size X.s.heap
    generalize hD : X.s.heap.objs.size = D at hn0
    have hf := X.S.fresh hn0
    have p0 : Post G X.w X.s (X.w.set D (.own { cls := .type "dict", data := .dict #[] })) X.σ { X.s with heap := X.s.heap.push { cls := .type "dict", data := .dict #[] } } :=
      ⟨.of _ _ X.s.toks, Wd.le_set hf, X.S.put hn0 (push_keeps _ _) (hD ▸ Heap.get?_push_size _ rfl)⟩
    refine wpAny_Dict_pairs (knd := PySem.strKind G.prog G.ω) sh.1 (fun q => by rw [q] at sh; exact h0 (List.eq_nil_of_length_eq_zero sh.2.symm)) (by rw [sh.2]; lia) ?_
    refine evalPairs_bind hk hs hlen (X.to p0) p0.ahead hev fun vs ps w₁ σ₁ s₁ p hv hlv hk1 => ?_
    cases hk1
    have hm := p.hw.m _ _ (Wd.set_at (w := X.w) (a := D) (x := .own { cls := .type "dict", data := .dict #[] }))
    obtain ⟨kvs, c1, c2, c3⟩ := hv.kvs
    rw [List.map_fst_zip (Nat.le_of_eq hlv.symm)] at c3
    refine ⟨kvs, c1, Heap.dictOf_iff.mpr ⟨_, hD ▸ p.S.m _ _ hm, emptyDict_of _⟩, fun h' hd hS => ?_⟩
    rw [merged_nil_of_nodup _ (by rw [c3]; exact hnd), hD] at hd
    rw [hD] at hS ⊢
    obtain ⟨o', ho', hdo⟩ := Heap.dictOf_iff.mp hd
    have sb : w₁.Sub (w₁.new (D, D)) := ⟨fun b o e => (Wd.new_ne (fun q => by rw [q, hm] at e; cases e) (fun q => by rw [q, hm] at e; cases e)).trans e, List.prefix_append _ _⟩
    exact ⟨_, ⟨(p0.hs.trans p.hs).trans (.of _ _ _), Wd.le_new (p := (D, D)) (p0.hw.trans p.hw) hf hf, p.S.adopt sb (Wd.unheld_own hm) (Wd.unheld_own hm) (fun b y hb _ e => (hS.2 b hb).trans e) ⟨_, ho'⟩ ⟨_, ho'⟩
      ⟨⟨rfl, o', kvs, ho', Wd.new_1 (p := (D, D)), hdo, c2.mono sb, by rw [List.length_zip, hlv, Nat.min_self]; exact Nat.le_trans (Nat.le_of_lt h10) (by decide), hD ▸ size_sys X.S X.B⟩, fun kv q => hok _ (List.of_mem_zip q).1⟩⟩, p.S.refNew⟩) fun _ _ => rfl
end
end Lw
namespace Lw
open PySem PySem.W PySem.Calls PyProof.Rows
inductive SimKs (G : Gl) (n : Nat) (cx : Cxt) : List String → List E → List Keyword → Prop
  | nil : SimKs G n cx [] [] []
  | cons {x : String} {a : E} {e : Expr} {p : Pos} {xs : List String} {r : List E} {ks : List Keyword} : Sim G n cx a e → SimKs G n cx xs r ks → SimKs G n cx (x :: xs) (a :: r) (⟨some (Str.ofString x), e, p⟩ :: ks)
section
variable {G : Gl} {n : Nat} {cx : Cxt} {w w' w₀ : Wd} {s s' s₀ : Shared} {σ σ' : St} {A : Around} {env : Env} {Ex : Value → Shared → Prop} {Q : Value → Shared → Prop} {x y z : Value} {pos : Pos}
theorem Sims.trees {es : List E} {xs : List Expr} (h : Sims G n cx es xs) (pos : Pos) : backTo pos (starEach xs env) = xs.map fun e => (false, eval e env) := by
  induction h with
  | nil => rfl
  | cons a _ ih =>
    rw [star_plain a.1]
    exact congrArg (List.cons _) ih
theorem SimKs.trees {xs : List String} {es : List E} {ks : List Keyword} (h : SimKs G n cx xs es ks) (pos : Pos) :
    (backToKw pos (keywordEach ks env)).all (·.1.isSome) = true ∧ (backToKw pos (keywordEach ks env)).any (·.1.isNone) = false ∧ (backToKw pos (keywordEach ks env)).filterMap (·.1) = xs.map Str.ofString := by
  induction h with
  | nil => exact ⟨rfl, rfl, rfl⟩
  | cons _ _ ih => exact ⟨ih.1, ih.2.1, congrArg (List.cons _) ih.2.2⟩
theorem SimKs.bind {xs : List String} {es : List E} {ks : List Keyword} (h : SimKs G n cx xs es ks) : ∀ {α : Type} {k : List V → St → Option (Res α × St)} {r : Res α} {R : List Value → Shared → Prop} (X : Pt G n cx), Ahead w₀ s₀ X.w X.s → bindM (X.evs es) k = some (r, σ') →
    (∀ x xv w₁ σ₁ s₁ (_ : Post G X.w X.s w₁ σ₁ s₁), VRs G w₁ x xv → k x σ₁ = some (r, σ') → R xv s₁) → wpAny G.M X.A (evalAll ((backToKw pos (keywordEach ks X.env)).map (·.2))) R (QX G w₀ s₀ X.envs r σ') X.s := by
  induction h with
  | nil => exact fun X A0 hev hk => wpAny_evalAll_nil (hk _ _ _ _ _ X.S.post .nil hev)
  | cons ha hr ih => exact fun X A0 hev hk => wpAny_evalAll_cons (wpAny_bind (ha.bind X A0 (evs_assoc X ▸ hev) fun x xv w₁ σ₁ s₁ p hx h1 => wpAny_bind (wpAny_standAt (wpAny_pure (ih (X.to p) (A0.step p) h1 fun y yv w₂ σ₂ s₂ q hy h2 => hk _ _ _ _ _ (p.ahead.post q) (.cons (hx.mono q.hw.sub) hy) h2)))))
noncomputable def KeepsK (G : Gl) (f : Value) : Prop := ∀ h, G.K.In h → ∃ k, (k = Keeper.frame ∨ k = Keeper.machine ∨ k = Keeper.boundFrame) ∧ Looks G.M h (keeperOf f) k
theorem keeps_builtin {id : String} : KeepsK G (.builtin id) := fun _ _ => ⟨.machine, .inr (.inl rfl), Looks.of_pure rfl⟩
theorem keeps_type {T : String} : KeepsK G (.type T) := fun _ _ => ⟨.machine, .inr (.inl rfl), Looks.of_pure rfl⟩
theorem keeps_in {f : Value} (h : keepIn G.K f = true) : KeepsK G f := fun _ X => keeps_K h _ X
theorem callWith_sound {α : Type} {f : Value} {first : List Value} {es : List E} {xs : List Expr} {kn : List String} {kes : List E} {ks : List Keyword} {k : List V → List V → St → Option (Res α × St)} {r : Res α} {R : Value → Shared → Prop}
    (hkeep : KeepsK G f) (ha : Sims G n cx es xs) (hks : SimKs G n cx kn kes ks) (X : Pt G n cx) (A0 : Ahead w₀ s₀ X.w X.s)
    (hev : bindM (X.evs es) (fun vs σ => bindM (Lw.evs G.P (run G.P n) X.hd kes X.ρ σ) (fun us σ => k vs us σ)) = some (r, σ'))
    (hk : ∀ vs us xv yv w₁ σ₁ s₁ (_ : Post G X.w X.s w₁ σ₁ s₁), VRs G w₁ vs xv → VRs G w₁ us yv → k vs us σ₁ = some (r, σ') → wpAny G.M X.A (call f (first ++ xv) ((kn.map Str.ofString).zip yv)) R (QX G w₀ s₀ X.envs r σ') s₁) :
    wpAny G.M X.A (callWith pos f first (backTo pos (starEach xs X.env)) (backToKw pos (keywordEach ks X.env))) R (QX G w₀ s₀ X.envs r σ') X.s := by
  obtain ⟨t1, t2, t3⟩ := hks.trees (env := X.env) pos
  have hplain : ((backTo pos (starEach xs X.env)).any (·.1) || (backToKw pos (keywordEach ks X.env)).any (·.1.isNone)) = false := by
    rw [t2, ha.trees pos, List.any_map, Bool.or_false]; exact List.any_eq_false.mpr fun _ _ => Bool.false_ne_true
  refine callWith_of (P := G.K.In) hplain hkeep ?_
  cases ha with
  | nil =>
    refine evalArgs_kw_nil t1 (hks.bind X A0 hev fun us yv w₂ σ₂ s₂ p hu h2 => ?_)
    rw [t3]
    exact ⟨(X.to p).B.kin p.S, hk _ us [] yv w₂ σ₂ s₂ p .nil hu h2⟩
  | @cons a e as bs hb hbs =>
    have key := Sims.bind (pos := pos) (R := fun vs s₁ => wpAny G.M X.A (evalAll ((backToKw pos (keywordEach ks X.env)).map (·.2))) (fun us s₂ => G.K.In s₂.heap ∧ wpAny G.M X.A (call f (first ++ vs) ((kn.map Str.ofString).zip us)) R (QX G w₀ s₀ X.envs r σ') s₂) (QX G w₀ s₀ X.envs r σ') s₁) (.cons hb hbs) X A0 hev fun vs xv w₁ σ₁ s₁ p hv h1 => hks.bind (pos := pos) (R := fun us s₂ => G.K.In s₂.heap ∧ wpAny G.M X.A (call f (first ++ xv) ((kn.map Str.ofString).zip us)) R (QX G w₀ s₀ X.envs r σ') s₂) (X.to p) (A0.step p) h1 fun us yv w₂ σ₂ s₂ q hu h2 =>
      ⟨((X.to p).to q).B.kin q.S, hk vs us xv yv w₂ σ₂ s₂ (p.ahead.post q) (hv.mono q.hw.sub) hu h2⟩
    rw [← t3] at key
    rw [show backTo pos (starEach (e :: bs) X.env) = (false, eval e X.env) :: backTo pos (starEach bs X.env) by rw [star_plain hb.1]; rfl] at key ⊢
    exact evalArgs_kw t1 key
theorem callName_sound {α : Type} {x : Str} {p : Pos} {f : Value} {es : List E} {xs : List Expr} {kn : List String} {kes : List E} {ks : List Keyword} {k : List V → List V → St → Option (Res α × St)} {r : Res α} {R : Value → Shared → Prop} (X : Pt G n cx)
    (hname : ∀ {Q : Value → Shared → Prop} {E : Value → Shared → Prop}, Q f X.s → wpAny G.M X.A (eval (.Name x p) X.env) Q E X.s)
    (hkeep : KeepsK G f) (ha : Sims G n cx es xs) (hks : SimKs G n cx kn kes ks)
    (hev : bindM (X.evs es) (fun vs σ => bindM (Lw.evs G.P (run G.P n) X.hd kes X.ρ σ) (fun us σ => k vs us σ)) = some (r, σ'))
    (hk : ∀ vs us xv yv w₁ σ₁ s₁ (_ : Post G X.w X.s w₁ σ₁ s₁), VRs G w₁ vs xv → VRs G w₁ us yv → k vs us σ₁ = some (r, σ') → wpAny G.M X.A (call f xv ((kn.map Str.ofString).zip yv)) R (QX G X.w X.s X.envs r σ') s₁) :
    wpAny G.M X.A (eval (.Call (.Name x p) xs ks pos) X.env) R (QX G X.w X.s X.envs r σ') X.s := wpAny_Call_Name_kw (hname (callWith_sound hkeep ha hks X .refl hev hk))
theorem wpAny_Call_Attr {o : Expr} {name : Str} {apos : Pos} {xs : List Expr} {es : List E} {kn : List String} {kes : List E} {ks : List Keyword} (hsup : notSuper o = true) (hpos : (apos.endLine == pos.line) = true)
    (ha : Sims G n cx es xs) (hks : SimKs G n cx kn kes ks) (hl : xs.length < 10) (hl2 : ks.length < 5)
    (h : wpAny G.M A (eval o env) (fun ov s₁ => ∀ pl, wpAny G.M A (getMethod ov name pl) (fun fx s₂ => wpAny G.M A (callWith pos fx.1 fx.2 (backTo pos (starEach xs env)) (backToKw pos (keywordEach ks env))) Q Ex s₂) Ex s₁) Ex s) :
    wpAny G.M A (eval (.Call (.Attribute o name apos) xs ks pos) env) Q Ex s := by
  rw [arm_eval_Call]
  obtain ⟨t1, t2, t3⟩ := hks.trees (env := env) pos
  have hf : methodCallForm (xs.length + ks.length) (backTo pos (starEach xs env)) (backToKw pos (keywordEach ks env)) = true := by
    unfold methodCallForm
    rw [t1, ha.trees pos]
    simp only [List.all_map, Function.comp_def, Bool.not_false, Bool.and_true, List.all_eq_true, implies_true, Bool.and_eq_true, decide_eq_true_eq, true_and]
    split <;> lia
  refine wpAny_bind (wpAny_attributeBase hsup (wpAny_mono h (fun ov s₁ q => wpAny_bind (wpAny_standAt ?_)) fun _ _ q => q))
  unfold methodCall
  rw [hf]
  unfold calleeOf methodCallPos
  simp only [hpos, Bool.not_true, Bool.false_or, if_true]
  exact wpAny_bind (wpAny_holding (wpAny_mono (q _) (fun fx s₂ q => wpAny_bind (wpAny_pure q)) fun _ _ q => q))
end
end Lw
namespace Lw
open PySem PySem.W PySem.Calls PyProof.Rows
noncomputable def bfVal : Bf → Value
  | .len => .builtin "len" | .sorted _ _ => .builtin "sorted" | .range => .type "range" | .min => .builtin "min"
  | .list => .type "list"
theorem lim63 {k : Nat} (h : k ≤ lim) : (k : Int) < 2 ^ 63 := Int.lt_of_le_of_lt (Int.ofNat_le.mpr h) (by decide)
theorem arg0_inv {α : Type} {args : List V} {k : Option α} {z : α} (h : arg0 args k = some z) : args = [] ∧ k = some z := by
  cases args with
  | nil => exact ⟨rfl, h⟩
  | cons => exact no h
theorem arg1_inv {α : Type} {args : List V} {k : V → Option α} {z : α} (h : arg1 args k = some z) : ∃ a, args = [a] ∧ k a = some z := by
  rcases args with _ | ⟨a, _ | _⟩
  · exact no h
  · exact ⟨a, rfl, h⟩
  · exact no h
theorem arg2_inv {α : Type} {args : List V} {k : V → V → Option α} {z : α} (h : arg2 args k = some z) : ∃ a b, args = [a, b] ∧ k a b = some z := by
  rcases args with _ | ⟨a, _ | ⟨b, _ | _⟩⟩
  · exact no h
  · exact no h
  · exact ⟨a, b, rfl, h⟩
  · exact no h
theorem retM_inv {α : Type} {o : Option α} {f : α → V} {σ σ' : St} {r : Res V} (h : retV (o.map f) σ = some (r, σ')) : ∃ a, o = some a ∧ r = .ok (f a) ∧ σ' = σ := by
  cases o with
  | none => exact no h
  | some a => cases h; exact ⟨a, rfl, rfl, rfl⟩
section
variable {G : Gl} {n : Nat} {cx : Cxt} {w w' w₀ : Wd} {s s' s₀ : Shared} {σ σ' : St} {A : Around} {env : Env} {Ex : Value → Shared → Prop} {Q : Value → Shared → Prop} {x y z : Value} {pos : Pos} {xs : List Value} {r : Res V}
theorem VRs.none (h : VRs G w [] xs) : xs = [] := by cases h; rfl
theorem VRs.one {v : V} (h : VRs G w [v] xs) : ∃ x, xs = [x] ∧ VR G w v x := by
  cases h with | cons a r => cases r; exact ⟨_, rfl, a⟩
theorem VRs.two {u v : V} (h : VRs G w [u, v] xs) : ∃ x y, xs = [x, y] ∧ VR G w u x ∧ VR G w v y := by
  cases h with | cons a r => cases r with | cons b r => cases r; exact ⟨_, _, rfl, a, b⟩
theorem SR.freezeR {a b k : Int} {t u v : Tok} {tk : Nat} (S : SR G w σ s.heap) : Out G (VR G) w s (.rng a b k) σ (.ref s.heap.objs.size) { s with heap := s.heap.push { cls := .type "range", data := .fields #[.int a t, .int b u, .int k v] }, toks := tk } :=
  S.freeze (.rng Wd.set_at ⟨t, u, v, rfl⟩) rfl
theorem SR.outN {m k : Nat} {t : Tok} {tk : Nat} (S : SR G w σ s.heap) (e : m = k) : Out G (VR G) w s (.int m) σ (.int k t) { s with toks := tk } := e ▸ S.outI
theorem lenD_sound {κ : Type} [DecidableEq κ] {knd : PySem.KeyKind G.prog G.ω κ} {l : Bool} {i : Nat} {es : List (κ × V)} {p : Addr × Addr} (S : SR G w σ s.heap) (r : DRel G w s.heap i p knd l es) : wpAny G.M A (call (.builtin "len") [.ref p.1]) (Out G (VR G) w s (.int es.length) σ) Ex s :=
  let ⟨_, o, _, r1, _, r2, r3, r5, r4⟩ := r
  call_len_dict (ne_beq r4) (Heap.dictOf_iff.mpr ⟨o, r1, r2⟩) (All2.length r3 ▸ lim63 r5) (S.outN (All2.length r3))
theorem len_sound {v : V} {m : Nat} (S : SR G w σ s.heap) (hv : VR G w v x) (h : lenV σ v = some m) : wpAny G.M A (call (.builtin "len") [x]) (Out G (VR G) w s (.int m) σ) Ex s := by
  cases v with
  | str y =>
    cases h
    obtain ⟨t, rfl, k⟩ := hv.strv
    exact PySem.P.len_str (Int.not_le.mpr (lim63 (sOk_iff.mp k).2)) S.outI
  | tup vs =>
    cases h
    obtain ⟨a, o, xs, k, rfl, h1, h2, h3, va, hl⟩ := hv.tupv S
    exact len_tuple ⟨o, h1, h2, k, h3⟩ (va.size ▸ lim63 hl) (S.outN va.size)
  | lst vs =>
    cases h
    obtain ⟨a, xs, rfl, hL, va, hl⟩ := hv.lstv S
    exact call_len_list hL (va.size ▸ lim63 hl) (S.outN va.size)
  | ref i =>
    obtain ⟨p, hp, rfl⟩ := hv.refv
    obtain ⟨o, hg, h⟩ := Option.bind_eq_some_iff.mp h
    have rr := S.ref hp hg
    cases o with
    | list l vs =>
      cases h
      obtain ⟨_, xs, k, r1, _, r2, r3⟩ := rr
      exact call_len_list ⟨_, r1, rfl, _, rfl⟩ (r2.size ▸ lim63 r3) (S.outN r2.size)
    | di => cases h; exact lenD_sound S rr
    | ds => cases h; exact lenD_sound S rr.1
    | inst => exact no h
  | _ => exact no h
theorem range_sound {args : List V} (S : SR G w σ s.heap) (hv : VRs G w args xs) (h : rangeV args σ = some (r, σ')) : wpAny G.M A (call (.type "range") xs []) (QV G (VR G) w s r σ') Ex s := by
  rcases args with _ | ⟨a, _ | ⟨b, _ | ⟨d, _ | _⟩⟩⟩
  · exact no h
  · obtain ⟨b, rfl, h⟩ := withInt_inv h
    obtain ⟨x, rfl, hx⟩ := hv.one
    obtain ⟨t, rfl⟩ := hx.intv
    cases h
    exact call_range_1 S.freezeR
  · obtain ⟨a, rfl, h⟩ := withInt_inv h
    obtain ⟨b, rfl, h⟩ := withInt_inv h
    obtain ⟨x, y, rfl, hx, hy⟩ := hv.two
    obtain ⟨t, rfl⟩ := hx.intv
    obtain ⟨u, rfl⟩ := hy.intv
    cases h
    exact call_range_2 S.freezeR
  · obtain ⟨a, rfl, h⟩ := withInt_inv h
    obtain ⟨b, rfl, h⟩ := withInt_inv h
    obtain ⟨d, rfl, h⟩ := withInt_inv h
    obtain ⟨hk, h⟩ := if_inv h
    cases h
    cases hv with | cons hx hv =>
    obtain ⟨y, z, rfl, hy, hz⟩ := VRs.two hv
    obtain ⟨t, rfl⟩ := hx.intv
    obtain ⟨u, rfl⟩ := hy.intv
    obtain ⟨v, rfl⟩ := hz.intv
    exact call_range_3 (Int.ne_of_gt hk.1) S.freezeR (.inl (PyProof.noPylong_small (by lia)))
  · exact no h
theorem bfV_sound {f : Bf} {args : List V} (S : SR G w σ s.heap) (hA : f.long = true → A.handled = none) (hv : VRs G w args xs) (hns : ∀ pr mt, f ≠ .sorted pr mt) (h : bfV f args σ = some (r, σ')) : wpAny G.M A (call (bfVal f) xs []) (QV G (VR G) w s r σ') Ex s := by
  cases f with
  | sorted pr mt => exact absurd rfl (hns pr mt)
  | range => exact range_sound S hv h
  | len =>
    obtain ⟨v, rfl, h⟩ := arg1_inv h
    obtain ⟨x, rfl, hx⟩ := hv.one
    obtain ⟨m, hm, rfl, rfl⟩ := retM_inv h
    exact len_sound S hx hm
  | min =>
    obtain ⟨a, b, rfl, h⟩ := arg2_inv h
    obtain ⟨x, y, rfl, hx, hy⟩ := hv.two
    obtain ⟨i, rfl, h⟩ := withInt_inv h
    obtain ⟨j, rfl, h⟩ := withInt_inv h
    obtain ⟨t, rfl⟩ := hx.intv
    obtain ⟨u, rfl⟩ := hy.intv
    cases h
    exact min_two_ints (hA rfl) fun h' tk k => ⟨w, (S.keeps k).postH, by split <;> exact .int _ _⟩
  | list =>
    obtain ⟨a, rfl, h⟩ := arg1_inv h
    obtain ⟨x, rfl, hx⟩ := hv.one
    obtain ⟨vs, hq, h⟩ := onO_inv h
    obtain ⟨l, ys, rfl, ⟨o, ho, hc, k, hdt⟩, hys, hlim⟩ := seqOf_sound S hx hq
    exact call_list_seq l (.inl rfl) ho hc hdt (fun h' c' hk hnew => mkL_at (tk := s.toks) S hys hlim h (get_size _) hk hnew) (hys.size ▸ lim_size0 hlim)
noncomputable def bmId : Bm → String
  | .append => "list.append" | .clear => "list.clear" | .pop => "dict.pop" | .startswith => "str.startswith" | .join => "str.join"
theorem kndV_inv {v : V} {k : Nat} (h : (kndV σ v == k) = true) (h0 : k ≠ 0) : (∃ s, v = .str s ∧ k = 3) ∨ ∃ i o, v = .ref i ∧ σ.get i = some o ∧ o.knd = k := by
  have h : kndV σ v = k := beq_iff_eq.mp h
  cases v with
  | str s => exact .inl ⟨s, rfl, h.symm⟩
  | ref i =>
    have h : (match σ.get i with | some o => o.knd | none => 0) = k := h
    cases e : σ.get i with
    | none => rw [e] at h; exact absurd h.symm h0
    | some o => rw [e] at h; exact .inr ⟨i, o, rfl, e, h⟩
  | _ => exact absurd h.symm h0
theorem DRel.type {κ : Type} [DecidableEq κ] {knd : PySem.KeyKind G.prog G.ω κ} {l : Bool} {i : Nat} {es : List (κ × V)} {p : Addr × Addr} (r : DRel G w s.heap i p knd l es) : s.TypeIs (.ref p.1) "dict" ∧ ∃ o, s.heap.get? p.1 = some o ∧ o.dict = none := by
  obtain ⟨_, o, kvs, r1, _, ⟨es, ep, ⟨x, y, _⟩, _⟩, _⟩ := r
  exact ⟨⟨_, r1, x⟩, _, r1, y⟩
theorem ORel.type {i : Nat} {p : Addr × Addr} {o : O} (r : ORel G w s.heap i p o) : (o.knd = 1 → s.TypeIs (.ref p.1) "list" ∧ ∃ o, s.heap.get? p.1 = some o ∧ o.dict = none) ∧ (o.knd = 2 → s.TypeIs (.ref p.1) "dict" ∧ ∃ o, s.heap.get? p.1 = some o ∧ o.dict = none) ∧ o.knd ≠ 3 := by
  cases o with
  | list => obtain ⟨_, xs, k, r1, _⟩ := r; exact ⟨fun _ => ⟨⟨_, r1, rfl⟩, _, r1, rfl⟩, fun q => (nomatch q), fun q => (nomatch q)⟩
  | di => exact ⟨fun q => (nomatch q), fun _ => DRel.type r, fun q => (nomatch q)⟩
  | ds => exact ⟨fun q => (nomatch q), fun _ => DRel.type r.1, fun q => (nomatch q)⟩
  | inst => exact ⟨fun q => (nomatch q), fun q => (nomatch q), fun q => (nomatch q)⟩
set_option maxRecDepth 20000 in
theorem bm_get {m : Bm} {o : V} {pl : Sem Bool} {Q : Value × List Value → Shared → Prop} (S : SR G w σ s.heap) (hv : VR G w o x) (hp : bmPre σ m o = true) (h : Q (.builtin (bmId m), [x]) s) : wpAny G.M A (getMethod x (Str.ofString (bmName m)) pl) Q Ex s := by
  rcases kndV_inv hp (by cases m <;> decide) with ⟨u, rfl, hm⟩ | ⟨i, ob, rfl, hg, hm⟩
  · obtain ⟨t, rfl, _⟩ := hv.strv
    cases m with
    | startswith => exact PySem.GM.startswith h
    | join => exact PySem.GM.join h
    | _ => cases hm
  · obtain ⟨p, hq, rfl⟩ := hv.refv
    obtain ⟨t1, t2, t3⟩ := (S.ref hq hg).type
    cases m with
    | append => exact getMethod_builtin (t1 hm).1 PySem.F.plainAttrs_list PySem.F.slot_list_append PySem.F.type_list_append (fun a e => by cases e; exact (t1 hm).2) h
    | clear => exact getMethod_builtin (t1 hm).1 PySem.F.plainAttrs_list PySem.F.slot_list_clear PySem.F.type_list_clear (fun a e => by cases e; exact (t1 hm).2) h
    | pop => exact getMethod_builtin (t2 hm).1 PySem.F.plainAttrs_dict PySem.F.slot_dict_pop PySem.F.type_dict_pop (fun a e => by cases e; exact (t2 hm).2) h
    | startswith => exact absurd hm t3
    | join => exact absurd hm t3
theorem ER.rm {κ : Type} [DecidableEq κ] {es : List (κ × V)} {kvs : List (κ × Value)} (r : ER G w es kvs) (k : κ) : ER G w (rm es k) (without kvs k) := by
  induction r with
  | nil => exact .nil
  | @cons a b es kvs hv _ ih =>
    unfold Lw.rm without at *
    rw [List.filter_cons, List.filter_cons, hv.1]
    split
    · exact .cons hv ih
    · exact ih
theorem ER.st {κ : Type} [DecidableEq κ] {es : List (κ × V)} {kvs : List (κ × Value)} {v : V} (r : ER G w es kvs) (k : κ) (hv : VR G w v x) : ER G w (st es k v) (stored kvs k x) := by
  have key : (es.any fun kv => kv.1 = k) = (kvs.any fun kv => kv.1 = k) ∧ ER G w (es.map fun kv => if kv.1 = k then (kv.1, v) else kv) (kvs.map fun kv => if kv.1 = k then (kv.1, x) else kv) := by
    induction r with
    | nil => exact ⟨rfl, .nil⟩
    | @cons a b es kvs hab _ ih =>
      rw [List.any_cons, List.any_cons, List.map_cons, List.map_cons, ih.1, hab.1]
      refine ⟨rfl, .cons ?_ ih.2⟩
      split
      · exact ⟨rfl, hv⟩
      · exact hab
  unfold Lw.st stored
  rw [key.1]
  split
  · exact key.2
  · exact All2.append r (.cons ⟨rfl, hv⟩ .nil)
theorem len_rm {κ : Type} [DecidableEq κ] (es : List (κ × V)) (k : κ) : (rm es k).length ≤ es.length := List.length_filter_le _ _
theorem len_st {κ : Type} [DecidableEq κ] (es : List (κ × V)) (k : κ) (v : V) : (st es k v).length ≤ es.length + 1 := by
  unfold st; split
  · rw [List.length_map]; exact Nat.le_succ _
  · rw [List.length_append]; exact Nat.le_refl _
theorem strOk_join (sep : Str) (hs : PyData.strOk sep = true) : ∀ ss : List Str, (∀ x ∈ ss, PyData.strOk x = true) → PyData.strOk (Str.join sep ss) = true
  | [], _ => by simp [Str.join, PyData.strOk, Str.empty]
  | [x], h => h x (List.mem_cons_self ..)
  | x :: y :: r, h => strOk_append (strOk_append (h x (List.mem_cons_self ..)) hs) (strOk_join sep hs (y :: r) fun z hz => h z (List.mem_cons_of_mem _ hz))
theorem asStrs_sound {vs : List V} (h : VRs G w vs xs) : ∀ {ss : List Str}, asStrs vs = some ss → StrsAre xs ss ∧ (∀ y ∈ ss, sOk y = true) ∧ vs.length = ss.length := by
  induction h with
  | nil => intro ss e; cases e; exact ⟨.nil, fun _ q => (nomatch q), rfl⟩
  | cons a _ ih =>
    intro ss e
    obtain ⟨b, h1, e⟩ := onO_inv e
    obtain ⟨bs, h2, e⟩ := onO_inv e
    cases e
    obtain ⟨i, rfl, h1⟩ := withStr_inv h1
    cases h1
    obtain ⟨t, rfl, k⟩ := a.strv
    obtain ⟨i1, i2, i3⟩ := ih h2
    exact ⟨.cons _ _ i1, fun y hy => (List.mem_cons.mp hy).elim (fun e => e ▸ k) (i2 y), congrArg (· + 1) i3⟩
theorem starts_eq (x y : Str) : Txt.startswith x y = y.cps.toList.isPrefixOf x.cps.toList := by
  unfold Txt.startswith Builtin.Str.subAt
  simp only [Nat.zero_add]
  have hx : (x.cps.extract 0 y.length).toList = x.cps.toList.take y.cps.toList.length := by
    rw [Array.toList_extract]; simp [List.extract, Str.length]
  rw [Bool.eq_iff_iff, Bool.and_eq_true, beq_iff_eq, List.isPrefixOf_iff_prefix, List.prefix_iff_eq_take, ← hx, decide_eq_true_eq]
  constructor
  · exact fun h => congrArg Array.toList h.2.symm
  · intro h
    have e : x.cps.extract 0 y.length = y.cps := Array.toList_inj.mp h.symm
    refine ⟨?_, e⟩
    have h2 := congrArg Array.size e
    rw [Array.size_extract] at h2
    show y.cps.size ≤ x.cps.size
    have : y.length = y.cps.size := rfl
    lia
theorem VRs.push {vs : List V} {xs : Array Value} {v : V} (r : VRs G w vs xs.toList) (h : VR G w v x) : VRs G w (vs ++ [v]) (xs.push x).toList := by
  rw [Array.toList_push]; exact All2.append r (.cons h .nil)
theorem free_inv {o : O} {vs : List V} (h : o.free = some vs) : o = .list false vs := by
  cases o with
  | list lk us => cases lk with
    | false => cases h; rfl
    | true => exact no h
  | _ => exact no h
theorem freeAt_inv {i : Nat} {vs : List V} (h : (σ.get i).bind O.free = some vs) : σ.get i = some (.list false vs) := by
  obtain ⟨o, e, h⟩ := Option.bind_eq_some_iff.mp h
  rw [e, free_inv h]
theorem SR.updO {i : Nat} {p : Addr × Addr} {d : Addr} {o : O} {v : V} {h' : Heap} {tk : Nat} (S : SR G w σ s.heap) (hi : w.φ[i]? = some p) (hd : w.m d = some (.obj i)) (k : Heap.SameBut d s.heap h') (hx : ∃ y, h'.get? d = some y) (r : ORel G w h' i p o) (hv : VR G w v x) :
    Out G (VR G) w s v (σ.set i o) x { s with heap := h', toks := tk } := ⟨w, ⟨.of _ _ _, .refl _, S.upd hi hd k hx r⟩, hv⟩
theorem popD_sound {κ : Type} [DecidableEq κ] {knd : PySem.KeyKind G.prog G.ω κ} {i : Nat} {es : List (κ × V)} {p : Addr × Addr} {k : κ} {v : V} {o : O} (S : SR G w σ s.heap) (hp : w.φ[i]? = some p) (r : DRel G w s.heap i p knd false es) (hk : knd.is k y = true) (hkp : (keyPart y).isSome = true) (hv : lk es k = some v)
    (hO : ∀ h', DRel G w h' i p knd false (rm es k) → ORel G w h' i p o) : wpAny G.M A (call (.builtin "dict.pop") [.ref p.1, y] []) (Out G (VR G) w s v (σ.set i o)) Ex s := by
  obtain ⟨ep, ob, kvs, r1, rm, r2, r3, r4, r5⟩ := r
  obtain ⟨z, hz, hvz⟩ := (lk_valueAt r3 k).1 v hv
  have hD := Heap.dictOf_iff.mpr ⟨ob, r1, r2⟩
  refine call_meetsIn PySem.F.slot_dict_pop hD.mapOf.typeIs PySem.F.entry_dict_pop (PySem.F.args_dict_pop_2 _ _) (meets_dict_pop_there knd p.1 hk [] (.inl rfl) hkp) ⟨kvs, z, hD, All2.length r3 ▸ lim_size0 r4, hz, fun h' hD' hS => ?_⟩
  obtain ⟨o', ho', hdo⟩ := Heap.dictOf_iff.mp hD'
  exact S.updO hp rm hS ⟨_, ho'⟩ (hO h' ⟨ep, o', _, ho', rm, hdo, r3.rm k, Nat.le_trans (len_rm _ _) r4, r5⟩) hvz
theorem pop_sound {i : Nat} {p : Addr × Addr} {o : O} {k : V} {q : V × O} (S : SR G w σ s.heap) (hp : w.φ[i]? = some p) (rr : ORel G w s.heap i p o) (hk : VR G w k y) (h : o.popped k = some q) :
    wpAny G.M A (call (.builtin "dict.pop") [.ref p.1, y] []) (Out G (VR G) w s q.1 (σ.set i q.2)) Ex s := by
  cases o with
  | di l es =>
    cases l with
    | true => exact no h
    | false =>
      obtain ⟨k, rfl, h⟩ := withInt_inv h
      obtain ⟨v, hv, rfl⟩ := Option.map_eq_some_iff.mp h
      obtain ⟨t, rfl⟩ := hk.intv
      exact popD_sound S hp rr (isInt_self _ _) rfl hv fun _ r => r
  | ds l es =>
    cases l with
    | true => exact no h
    | false =>
      obtain ⟨k, rfl, h⟩ := withStr_inv h
      obtain ⟨v, hv, rfl⟩ := Option.map_eq_some_iff.mp h
      obtain ⟨t, rfl, _⟩ := hk.strv
      exact popD_sound S hp rr.1 (strKind_is _ _ _ _) rfl hv fun _ r => ⟨r, fun kv q => rr.2 kv (List.mem_filter.mp q).1⟩
  | _ => exact no h
theorem bmV_sound {m : Bm} {o : V} {args : List V} (S : SR G w σ s.heap) (ho : VR G w o x) (hv : VRs G w args xs) (h : bmV m o args σ = some (r, σ')) : wpAny G.M A (call (.builtin (bmId m)) (x :: xs) []) (QV G (VR G) w s r σ') Ex s := by
  cases m with
  | append =>
    obtain ⟨i, rfl, h⟩ := withRef_inv h
    obtain ⟨v, rfl, h⟩ := arg1_inv h
    obtain ⟨vs, hg, h⟩ := onO_inv h
    obtain ⟨hl, h⟩ := if_inv h
    cases h
    obtain ⟨p, hp, rfl⟩ := ho.refv
    obtain ⟨y, rfl, a⟩ := hv.one
    obtain ⟨ep, ys, k, r1, rm, r2, r3⟩ := S.ref hp (freeAt_inv hg)
    exact wpAny_list_append_plain (l := p.1) ⟨k, r1⟩ (fun h' ⟨k', hk'⟩ hS => S.updO (tk := s.toks) hp rm hS ⟨_, hk'⟩ ⟨ep, _, k', hk', rm, r2.push a, by rw [List.length_append]; exact hl⟩ .none) (r2.size ▸ lim_size0 r3)
  | clear =>
    obtain ⟨i, rfl, h⟩ := withRef_inv h
    obtain ⟨rfl, h⟩ := arg0_inv h
    obtain ⟨vs, hg, h⟩ := onO_inv h
    cases h
    obtain ⟨p, hp, rfl⟩ := ho.refv
    obtain rfl := hv.none
    obtain ⟨ep, ys, k, r1, rm, r2, r3⟩ := S.ref hp (freeAt_inv hg)
    have hnew : ∃ k', (s.heap.update p.1 (Obj.mapSeq fun _ => #[])).get? p.1 = some (listObj #[] k') := ⟨_, Heap.get?_update_self _ r1 rfl⟩
    obtain ⟨k', hnew⟩ := hnew
    exact call_meets PySem.F.slot_list_clear ⟨_, r1, rfl⟩ PySem.F.entry_list_clear (PySem.F.args_list_clear_1 _) (PySem.AutoSeq1.list_clear_list_0 p.1 ys k (r2.size ▸ lim_size0 r3)) ⟨r1, S.updO hp rm (Heap.SameBut.update ..) ⟨_, hnew⟩ ⟨ep, _, _, hnew, rm, .nil, Nat.zero_le _⟩ .none⟩
  | pop =>
    obtain ⟨i, rfl, h⟩ := withRef_inv h
    obtain ⟨v, rfl, h⟩ := arg1_inv h
    obtain ⟨ob, hg, h⟩ := onO_inv h
    obtain ⟨q, hq, h⟩ := onO_inv h
    cases h
    obtain ⟨p, hp, rfl⟩ := ho.refv
    obtain ⟨y, rfl, a⟩ := hv.one
    exact pop_sound S hp (S.ref hp hg) a hq
  | startswith =>
    obtain ⟨s1, rfl, h⟩ := withStr_inv h
    obtain ⟨v, rfl, h⟩ := arg1_inv h
    obtain ⟨s2, rfl, h⟩ := withStr_inv h
    cases h
    obtain ⟨t, rfl, _⟩ := ho.strv
    obtain ⟨y, rfl, a⟩ := hv.one
    obtain ⟨u, rfl, _⟩ := a.strv
    refine PySem.SC.startswith ?_
    rw [starts_eq]; exact S.outT (tk := s.toks) (.bool _)
  | join =>
    obtain ⟨sep, rfl, h⟩ := withStr_inv h
    obtain ⟨v, rfl, h⟩ := arg1_inv h
    obtain ⟨vs, hq, h⟩ := onO_inv h
    obtain ⟨ss, hss, h⟩ := onO_inv h
    obtain ⟨hl, h⟩ := if_inv h
    cases h
    obtain ⟨t, rfl, hsep⟩ := ho.strv
    obtain ⟨y, rfl, a⟩ := hv.one
    obtain ⟨l, ys, rfl, hL, hys, hlim⟩ := seqOf_sound S a hq
    obtain ⟨j1, j2, _⟩ := asStrs_sound hys hss
    refine join_listW hL j1 (by show sep.cps.size ≤ 16; lia) (by unfold lim at hl; lia) fun t' k => S.outT ?_
    rw [show Txt.join sep ss = Str.join sep ss from PySem.StrLaws.glued_eq_join sep ss]
    refine .str _ _ (sOk_iff.mpr ⟨strOk_join sep (sOk_iff.mp hsep).1 ss fun y hy => (sOk_iff.mp (j2 y hy)).1, ?_⟩)
    have := PySem.StrLaws.join_length_le sep ss
    rw [show sep.length = 0 from hl.1] at this
    show (Str.join sep ss).length ≤ lim
    lia
end
end Lw
namespace Lw
open PySem PySem.W PySem.Calls PyProof.Rows Builtin Builtin.ObjectAttr Builtin.Getset_descriptor
theorem and2B {a b : Bool} (h : (a && b) = true) : a = true ∧ b = true := Bool.and_eq_true_iff.mp h
theorem beqO {α : Type} [BEq α] [LawfulBEq α] {a b : α} (h : (a == b) = true) : a = b := beq_iff_eq.mp h
section
variable {K : Frag} {C N : Addr} {h : Heap} {x : Str}
theorem lacks_ns (X : K.In h) (e : lacks K N x = true) : ∃ m, h.Ns N m ∧ m x = none := by
  unfold lacks at e
  split at e
  · rename_i a b es ep sl ho
    obtain ⟨e1, e2⟩ := and2B e
    refine ⟨fun y => nsFind es y, ⟨_, es, ep, X _ _ ho, rfl, fun z hz => ?_, fun _ => rfl⟩, Option.isNone_iff_eq_none.mp e2⟩
    have hx := Array.all_eq_true_iff_forall_mem.mp e1 z hz
    cases hk : z.key <;> rw [hk] at hx <;> first | exact ⟨_, _, rfl⟩ | cases hx
  · cases e
theorem excTl_tail (X : K.In h) {l : List Value} (e : excTl K l = true) : OwnTail h excBm l := by
  unfold excTl at e
  split at e
  · rename_i A r
    obtain ⟨e1, e2⟩ := and2B e
    obtain rfl := of_decide_eq_true e2
    unfold clsIn at e1
    split at e1
    · rename_i cd hc
      split at hc
      · rename_i c0 dd cd' sl ho
        cases hc
        obtain ⟨m, h1, h2⟩ := lacks_ns X e1
        exact .own (X _ _ ho) h1 h2 .base
      · cases hc
    · cases e1
  · obtain rfl := of_decide_eq_true e; exact .base
inductive ExcObjAt (h : Heap) (C : Addr) : Prop
  | mk (nm q : Str) (N : Addr) (bs bm : List Value) (hdct : Bool) (sn : List Str) (sub : List Value) (ab : Bool) (col : Option Bool) (dd : Option Addr) (k0 k1 k2 k3 k5 : Option Value) (mN : Str → Option Value) (e1 : h.get? C = some (excClassObj nm q C N bs bm hdct sn sub ab col dd k0 k1 k2 k3 k5 excNew)) (e2 : h.Ns N mN) (e3 : mN "__init__" = none) (e4 : OwnTail h excBm bm) : ExcObjAt h C
theorem excObj_at (X : K.In h) (e : excObj K C = true) : ExcObjAt h C := by
  unfold excObj at e
  split at e
  · rename_i c dd cd sl ho
    obtain ⟨e1, e⟩ := and2B e
    obtain ⟨e2, e⟩ := and2B e
    obtain ⟨e3, e⟩ := and2B e
    obtain ⟨e4, e⟩ := and2B e
    obtain ⟨e5, e⟩ := and2B e
    obtain ⟨e6, e7⟩ := and2B e
    obtain ⟨nm, bs, mro, N, q, hdct, sn, sub, ab, col, hdel⟩ := cd
    obtain ⟨mN, n1, n2⟩ := lacks_ns X e6
    obtain ⟨l⟩ := sl
    obtain ⟨k0, k1, k2, k3, k5, rfl⟩ := six_places (l := l) (by simpa using of_decide_eq_true e4) (by simpa using of_decide_eq_true e5)
    obtain rfl := of_decide_eq_true e1
    obtain rfl : hdel = false := by simpa using e3
    have e2 := of_decide_eq_true e2
    cases mro with
    | nil => cases e2
    | cons a r =>
      cases e2
      exact ⟨nm, q, N, bs, r, hdct, sn, sub, ab, col, dd, k0, k1, k2, k3, k5, mN, X _ _ ho, n1, n2, excTl_tail X e7⟩
  · cases e
theorem excObj_cls (e : excObj K C = true) : ∃ c dd cd sl, K.lookup C = some ⟨c, dd, .cls cd, sl⟩ := by
  unfold excObj at e
  split at e
  · rename_i c dd cd sl ho; exact ⟨c, dd, cd, sl, ho⟩
  · cases e
end
section
variable {prog : Program} {w : World} {A : Around} {E : Value → Shared → Prop} {s : Shared} {K : Frag} {x C : Addr} {R : Result → Shared → Prop}
theorem exc_class_get {tp : Value} (X : K.In s.heap) (L0 : Looks (model prog w) s.heap (typeOf (.ref x)) (.ref C)) (hm : mroIn K C (.type "object") = some true)
    (h : R (.ok (.ret (.ref C))) s) : codeAny (model prog w) A (.call (.builtin "getset_descriptor.__get__") ⟨[.builtin "object.__class__", .ref x, tp], []⟩) R s := by
  obtain ⟨hh, g, dr, t, os⟩ := s
  have L1 := looks_mroIn (M := model prog w) X hm
  refine codeAny_call_builtin KF.slot_gs.plain KF.entry_gs (KF.slot_gs.check _ _ _ _ _ _ _ _ KF.type_class (KF.args_gs _ _ _) ?_)
  unfold Builtin.«getset_descriptor.__get__» descrGet
  rw [dga_obj]
  refine wpAny_bind (wpAny_pure ?_)
  unfold descrGetter descrCheckInstance descrNameAndClass isInstance
  simp only [KF.owner_class]
  repeat lk
  refine ⟨Code.quiet_builtin _ (by decide +kernel), codeAny_builtin KF.entry_class ?_⟩
  unfold Builtin.«object.__class__» shownTypeOf
  repeat lk
  exact h
theorem looks_data {M : Model} {h : Heap} {name : Str} {a g : Value} (X : K.In h) (ha : findIn K (.ref C) name = some (some a)) (hg : specialIn K a "__get__" = some (some g)) (ht : takesIn K a = some true) : Looks M h (find (.ref x) (.ref C) name) (.bind g a) :=
  (looks_findIn (M := M) X ha).andThen ((show Looks M h (getOf (some a)) (some g) from looks_specialIn X hg).andThen ((show Looks M h (dataDescriptor? (some a) (some g)) (some (g, a)) from (looks_takesIn X ht).andThen .now).andThen (Looks.tag .now)))
theorem bexc_kind : builtinKind "BaseException.__getattribute__" = some .slot := by decide +kernel
theorem bexc_split : splitId "BaseException.__getattribute__" = some ("BaseException", "__getattribute__") := by decide +kernel
theorem bexc_ne : (onTheHeap (Value.ref C) && Value.builtin "BaseException.__getattribute__" == Value.builtin "object.__getattribute__") = false := by
  rw [show (Value.builtin "BaseException.__getattribute__" == Value.builtin "object.__getattribute__") = false from by decide +kernel]; rfl
theorem exc_ga_check {nm : Value} {Q : Unit → Shared → Prop} (LI : Looks (model prog w) s.heap (isInstance (.ref x) (.type "BaseException")) true) (q : Q () s) : wpAny (model prog w) A (checkBuiltinCall "BaseException.__getattribute__" ⟨[.ref x, nm], []⟩) Q E s :=
  check_slot (i := "BaseException.__getattribute__") (owner := "BaseException") (n := "__getattribute__") (self := .ref x) (rest := [nm]) (kw := []) bexc_kind bexc_split LI (F.args_bexc_ga (.ref x) nm) q
theorem exc_ga_entry {tk : Tok} {Q : PySem.Fin → Shared → Prop} (X : K.In s.heap) (LT : Looks (model prog w) s.heap (typeOf (.ref x)) (.ref C)) (L3 : Looks (model prog w) s.heap (find (.ref x) (.ref C) "__class__") (.bind (.builtin "getset_descriptor.__get__") (.builtin "object.__class__"))) (e6 : mroIn K C (.type "object") = some true) (h : Q (.done (.ret (.ref C))) s) :
    wpAny (model prog w) A (Builtin.«object.__getattribute__» ⟨[.ref x, .str "__class__" tk], []⟩) Q E s := by
  obtain ⟨hh, g, d, t, os⟩ := s
  unfold Builtin.«object.__getattribute__»
  refine wpAny_bind (wpAny_pure (wpAny_bind (wpAny_pure (wpAny_bind (LT.at (wpAny_bind (L3.at ?_)))))))
  show wpAny _ _ (bindTo (.builtin "getset_descriptor.__get__") (.builtin "object.__class__") (.ref x) (.ref C)) _ _ _
  unfold bindTo
  exact wpAny_bind (wpAny_holding (wpAny_call (exc_class_get X LT e6 (wpAny_pure h))))
theorem exc_ga_call {tk : Tok} {R : Result → Shared → Prop} (X : K.In s.heap) (LT : Looks (model prog w) s.heap (typeOf (.ref x)) (.ref C)) (LI : Looks (model prog w) s.heap (isInstance (.ref x) (.type "BaseException")) true) (L3 : Looks (model prog w) s.heap (find (.ref x) (.ref C) "__class__") (.bind (.builtin "getset_descriptor.__get__") (.builtin "object.__class__"))) (e6 : mroIn K C (.type "object") = some true) (h : R (.ok (.ret (.ref C))) s) :
    codeAny (model prog w) A (.call (.builtin "BaseException.__getattribute__") ⟨[.ref x, .str "__class__" tk], []⟩) R s :=
  codeAny_call_builtin F.attr_ValueError.ga.plain F.entry_bexc_ga (exc_ga_check LI (exc_ga_entry X LT L3 e6 h))
theorem exc_class {Q : Option Value → Shared → Prop} (X : K.In s.heap) (L0 : ∀ M, Looks M s.heap (typeOf (.ref x)) (.ref C)) (e : excAtt K C = true) (h : Q (some (.ref C)) { s with toks := s.toks + 1 }) : wpAny (model prog w) A (getAttr? (.ref x) "__class__") Q E s := by
  unfold excAtt at e
  obtain ⟨e1, e⟩ := and2B e
  obtain ⟨e2, e⟩ := and2B e
  obtain ⟨e3, e⟩ := and2B e
  obtain ⟨e4, e⟩ := and2B e
  obtain ⟨e5, e⟩ := and2B e
  obtain ⟨e6, e7⟩ := and2B e
  have L1 := looks_findIn (M := model prog w) X (beqO e1)
  have L2 := looks_findIn (M := model prog w) X (beqO e2)
  have L3 := looks_data (M := model prog w) (x := x) X (beqO e3) (beqO e4) (beqO e5)
  have L7 := looks_mroIn (M := model prog w) X (beqO e7)
  have LT := L0 (model prog w)
  have LI : Looks (model prog w) s.heap (isInstance (.ref x) (.type "BaseException")) true := LT.andThen L7
  have e6 := beqO e6
  obtain ⟨hh, g, d, t, os⟩ := s
  unfold getAttr? getAttrBy? getAttrBy
  refine wpAny_bind (wpAny_mkText (wpAny_bind (wpAny_attempt (wpAny_holding (wpAny_bind (LT.at (wpAny_bind (L1.at ?_))))))))
  dsimp only
  rw [bexc_ne]
  rw [if_neg Bool.false_ne_true]
  unfold getAttrByItsOwn
  refine wpAny_bind ?_
  unfold hookBefore
  rw [if_pos (show onTheHeap (Value.ref C) = true from rfl)]
  refine L2.at (wpAny_bind (wpAny_attempt (wpAny_holding ?_)))
  unfold callGetattribute
  rw [show (false && onTheHeap (Value.builtin "BaseException.__getattribute__")) = false from rfl, if_neg Bool.false_ne_true]
  unfold boundAndCalled
  rw [F.attr_ValueError.ga.bind]
  refine wpAny_bind (wpAny_pure (wpAny_call (exc_ga_call X LT LI L3 e6 ?_)))
  exact handed_on rfl (wpAny_pure h)
end
section
variable {K : Frag} {x C : Addr}
theorem kitx_exc (h1 : excObj K C = true) (h2 : excAtt K C = true) : KitX K (.ref x) (.ref C) (fun h => ∃ o, h.get? x = some o ∧ o.cls = .ref C) where
  ty := fun _ _ _ ⟨_, e1, e2⟩ => e2 ▸ (Looks.ld e1).andThen .now
  it := fun _ _ X _ => by
    obtain ⟨c, dd, cd, sl, ho⟩ := excObj_cls h1
    intro A' Q' E' s' k q
    unfold isType loadHead
    exact wpAny_bind (wpAny_loadPart (k _ _ (X _ _ ho)) (wpAny_pure q))
  ne := fun h tp dd its n sl X htp => by
    obtain ⟨c, dd, cd, sl, ho⟩ := excObj_cls h1
    refine Bool.eq_false_iff.mpr fun q => ?_
    have e : C = tp := Value.ref.inj (beq_iff_eq.mp q)
    subst e
    have z := (X _ _ ho).symm.trans htp
    cases z
  ca := fun X ⟨_, e1, e2⟩ k => exc_class X (fun _ => e2 ▸ (Looks.ld e1).andThen .now) h2 k
end
section
variable {G : Gl} {w : Wd} {c d : String} {C D : Addr}
theorem Base.excs (B : Base G w) (h : ExcCls G c C) : excObj G.K C = true ∧ excAtt G.K C = true ∧ kitOne G.K (.ref C) (.type "ValueError") = some true ∧ ∀ d D, (d ∈ G.com.excs ∨ d ∈ G.com.cls) → clsAt G.K d = some D → kitOne G.K (.ref C) (.ref D) = some (G.P.sub c d) ∧ mroIn G.K C (.ref D) = some (G.P.sub c d) := by
  have e := B.exc c h.1
  unfold excOk at e
  rw [h.2] at e
  obtain ⟨e1, e⟩ := and2B e
  obtain ⟨e2, e⟩ := and2B e
  obtain ⟨e3, e4⟩ := and2B e
  refine ⟨e1, e2, beqO e3, fun d D hd hD => ?_⟩
  have z := List.all_eq_true.mp e4 d (List.mem_append.mpr hd)
  rw [hD] at z
  exact ⟨beqO (and2B z).1, beqO (and2B z).2⟩
end
end Lw
namespace Lw
open PySem PySem.W PySem.Calls PyProof.Rows
noncomputable def tyVal (K : Frag) : Ty → Option Value
  | .int => some (.type "int") | .bool => some (.type "bool") | .str => some (.type "str") | .tuple => some (.type "tuple") | .list => some (.type "list") | .valueError => some (.type "ValueError")
  | .own c => (clsAt K c).map .ref
theorem looks_cls {M : Model} {h : Heap} {a : Addr} {o : Obj} (e : h.get? a = some o) : Looks M h (typeOf (.ref a)) o.cls := (Looks.ld e).andThen .now
section
variable {G : Gl} {n : Nat} {cx : Cxt} {w w' w₀ : Wd} {s s' s₀ : Shared} {σ σ' : St} {A : Around} {env : Env} {Ex : Value → Shared → Prop} {Q : Value → Shared → Prop} {x y z : Value} {pos : Pos} {xs : List Value} {r : Res V}
theorem SR.outB {b : Bool} {tk : Nat} (S : SR G w σ s.heap) : Out G (VR G) w s (.bool b) σ (.bool b) { s with toks := tk } := ⟨w, S.postH, .bool _⟩
theorem flat_inv {v : V} {k : Nat} (hv : VR G w v x) (h : flatKind v = some k) : (x = .none ∧ k = 0) ∨ (∃ b, x = .bool b ∧ k = 1) ∨ (∃ i t, x = .int i t ∧ k = 2) ∨ ∃ u t, x = .str u t ∧ k = 3 := by
  cases v with
  | none => cases hv; cases h; exact .inl ⟨rfl, rfl⟩
  | bool => cases hv; cases h; exact .inr (.inl ⟨_, rfl, rfl⟩)
  | int => cases hv; cases h; exact .inr (.inr (.inl ⟨_, _, rfl, rfl⟩))
  | str => cases hv; cases h; exact .inr (.inr (.inr ⟨_, _, rfl, rfl⟩))
  | _ => exact no h
theorem withExc_inv {α : Type} {v : V} {k : String → Option α} {z : α} (h : withExc v k = some z) : ∃ c, v = .exc c ∧ k c = some z := by
  cases v with
  | exc c => exact ⟨c, rfl, h⟩
  | _ => exact no h
theorem exc_isi {c : String} {tv : Value} {b : Bool} (S : SR G w σ s.heap) (B : Base G w) (hv : VR G w (.exc c) x) (hk : ∀ C, ExcCls G c C → kitOne G.K (.ref C) tv = some b) : wpAny G.M A (call (.builtin "isinstance") [x, tv]) (Out G (VR G) w s (.bool b) σ) Ex s := by
  cases hv with
  | exc e1 e2 e3 e4 =>
    obtain ⟨q1, q2, _⟩ := B.excs e4
    exact kia_one (kitx_exc q1 q2) (B.kin S) ⟨_, S.at e1, e2⟩ (hk _ e4) (fun e => nomatch e) fun tk => S.outB
theorem isinstV_sound {v : V} {tv : Value} {t : Ty} {b : Bool} (S : SR G w σ s.heap) (B : Base G w) (hv : VR G w v x) (ht : tyVal G.K t = some tv) (hd : ∀ d, t = .own d → d ∈ G.com.excs ∨ d ∈ G.com.cls) (hb : isinstV G.P σ v t = some b) : wpAny G.M A (call (.builtin "isinstance") [x, tv]) (Out G (VR G) w s (.bool b) σ) Ex s := by
  cases t with
  | int =>
    cases ht
    obtain ⟨k, hk, rfl⟩ := Option.map_eq_some_iff.mp hb
    rcases flat_inv hv hk with ⟨rfl, rfl⟩ | ⟨b, rfl, rfl⟩ | ⟨i, t, rfl, rfl⟩ | ⟨u, t, rfl, rfl⟩
    · exact IsiPair.NoneType_int S.outB
    · exact IsiPair.bool_int (S.outB (tk := s.toks))
    · exact IsiPair.int_int (S.outB (tk := s.toks))
    · exact IsiPair.str_int S.outB
  | bool =>
    cases ht
    obtain ⟨k, hk, rfl⟩ := Option.map_eq_some_iff.mp hb
    rcases flat_inv hv hk with ⟨rfl, rfl⟩ | ⟨b, rfl, rfl⟩ | ⟨i, t, rfl, rfl⟩ | ⟨u, t, rfl, rfl⟩
    · exact IsiPair.NoneType_bool S.outB
    · exact IsiPair.bool_bool (S.outB (tk := s.toks))
    · exact IsiPair.int_bool S.outB
    · exact IsiPair.str_bool S.outB
  | str =>
    cases ht
    obtain ⟨k, hk, rfl⟩ := Option.map_eq_some_iff.mp hb
    rcases flat_inv hv hk with ⟨rfl, rfl⟩ | ⟨b, rfl, rfl⟩ | ⟨i, t, rfl, rfl⟩ | ⟨u, t, rfl, rfl⟩
    · exact IsiPair.NoneType_str S.outB
    · exact IsiPair.bool_str S.outB
    · exact IsiPair.int_str S.outB
    · exact IsiPair.str_str (S.outB (tk := s.toks))
  | tuple =>
    cases ht
    cases v with
    | tup vs =>
      cases hb
      obtain ⟨a, o, xs, k, rfl, h1, h2, _⟩ := hv.tupv S
      exact IsiPair.tuple_tuple h1 h2 (S.outB (tk := s.toks))
    | _ => exact no hb
  | list =>
    cases ht
    obtain ⟨vs, hq, rfl⟩ := Option.map_eq_some_iff.mp hb
    obtain ⟨a, xs, rfl, ⟨o, h1, h2, _⟩, _⟩ := seqOf_sound S hv hq
    exact IsiPair.list_list h1 h2 (S.outB (tk := s.toks))
  | valueError =>
    cases ht
    obtain ⟨c, rfl, hb⟩ := withExc_inv hb
    cases hb
    exact exc_isi S B hv fun C h => (B.excs h).2.2.1
  | own d =>
    obtain ⟨C, hC, rfl⟩ := Option.map_eq_some_iff.mp ht
    rcases orElse_inv hb with hb | hb
    · obtain ⟨c, rfl, hb⟩ := withExc_inv hb
      cases hb
      exact exc_isi S B hv fun C' h => ((B.excs h).2.2.2 d C (hd d rfl) hC).1
    obtain ⟨i, rfl, hb⟩ := withRef_inv hb
    obtain ⟨o, hg, hb⟩ := onO_inv hb
    cases o with
    | inst c fs =>
      obtain ⟨e, hb⟩ := if_inv hb
      cases hb
      subst e
      obtain ⟨p, hp, rfl⟩ := hv.refv
      obtain ⟨C', es, k, I, hC', _⟩ := inst_of B S hp hg
      rw [hC] at hC'; cases hC'
      exact isi_call (B.kin S) (t := .ref C) (fun M => looks_cls I.I.1) (by unfold isIn; simp) (fun e => nomatch e) (S.outB (tk := s.toks))
    | _ => exact no hb
theorem boot_bf (f : Bf) : bootBuiltins (Str.ofString (bfName f)) = some (bfVal f) ∧ Str.ofString (bfName f) ≠ "__name__" := by
  cases f <;> exact ⟨by kernel_rfl, by first | decide | (show Str.ofString "sorted" ≠ _; decide)⟩
theorem keeps_bf (f : Bf) : KeepsK G (bfVal f) := by cases f <;> first | exact keeps_builtin | exact keeps_type
theorem wp_qv {β : Type} {R : Wd → V → β → Prop} {t : Sem β} (A0 : Ahead w₀ s₀ w s) (h : wpAny G.M A t (QV G R w s r σ') Ex s) : wpAny G.M A t (QV G R w₀ s₀ r σ') Ex s := wpAny_mono h (fun _ _ q => A0.qv q) fun _ _ q => q
theorem Pt.long (X : Pt G n cx) {b : Bool} (h : ¬ (b && X.hd) = true) (e : b = true) : X.A.handled = none := X.hA.handled (by subst e; simpa using h)
noncomputable def SortOk (G : Gl) (pr : Bool) : Prop := ∀ (n : Nat) (cx : Cxt) (X : Pt G n cx) (mt : Bool) (args : List V) (xs : List Value) (r : Res V) (σ' : St) (Ex : Value → Shared → Prop), X.A.handled = none → VRs G X.w args xs → bfV (.sorted pr mt) args X.σ = some (r, σ') → wpAny G.M X.A (call (.builtin "sorted") xs []) (QV G (VR G) X.w X.s r σ') Ex X.s
theorem sim_bcall {f : Bf} {es : List E} {xs : List Expr} {p : Pos} (hso : ∀ pr mt, f = .sorted pr mt → SortOk G pr) (hg : cx.isGlob (Str.ofString (bfName f)) = true) (hk : nsIn G.K mainGlobals (Str.ofString (bfName f)) = some none) (ha : Sims G n cx es xs) :
    Sim G n cx (.bcall f es) (.Call (.Name (Str.ofString (bfName f)) p) xs [] pos) :=
  .of (fun X r σ' hev => callName_sound (kn := []) (kes := []) (ks := []) (k := fun vs _ σ => if f.long && X.hd then none else bfV f vs σ) X (fun hQ => glob_bi X hg hk (boot_bf f).1 (boot_bf f).2 hQ) (keeps_bf f) ha .nil hev fun vs us xv yv w₁ σ₁ s₁ p hv hu hk => by
    obtain ⟨hl, hk⟩ := ifn_inv hk
    have hl := X.long hl
    refine wp_qv p.ahead ?_
    cases f with
    | sorted pr mt => exact hso pr mt rfl n cx (X.to p) mt vs xv r σ' _ (hl rfl) hv hk
    | _ => exact bfV_sound p.S hl hv (fun pr mt q => nomatch q) hk) fun _ _ => rfl
theorem sim_bmeth {m : Bm} {o : E} {es : List E} {oe : Expr} {xs : List Expr} {ap : Pos} (hsup : notSuper oe = true) (hpos : (ap.endLine == pos.line) = true) (hl : xs.length < 10) (ho : Sim G n cx o oe) (ha : Sims G n cx es xs) :
    Sim G n cx (.bmeth m o es) (.Call (.Attribute oe (Str.ofString (bmName m)) ap) xs [] pos) :=
  .of (fun X r σ' hev => wpAny_Call_Attr hsup hpos ha .nil hl (by decide) (ho.bind X .refl hev fun x xv w₁ σ₁ s₁ p hx hk pl => by
    obtain ⟨hpre, hk⟩ := if_inv hk
    exact bm_get p.S hx hpre (callWith_sound (kn := []) (kes := []) (ks := []) (k := fun vs _ σ => if m.long && X.hd then none else bmV m x vs σ) keeps_builtin ha .nil (X.to p) p.ahead hk fun vs us yv zv w₂ σ₂ s₂ q hv hu hk => wp_qv (p.ahead.step q) (bmV_sound q.S (hx.mono q.hw.sub) hv (ifn_inv hk).2)))) fun _ _ => rfl
theorem sim_isinst {a : E} {t : Ty} {x : Expr} {tv : Value} {p p2 : Pos} (hg : cx.isGlob ("isinstance" : Str) = true) (hk : nsIn G.K mainGlobals ("isinstance" : Str) = some none) (hst : notStar x = true) (ht : tyVal G.K t = some tv) (hd : ∀ d, t = .own d → d ∈ G.com.excs ∨ d ∈ G.com.cls)
    (hname : ∀ (X : Pt G n cx) (Ex Q : Value → Shared → Prop), Q tv X.s → wpAny G.M X.A (eval (.Name (Str.ofString (tyName t)) p2) X.env) Q Ex X.s) (ha : Sim G n cx a x) :
    Sim G n cx (.isinst a t) (.Call (.Name ("isinstance" : Str) p) [x, .Name (Str.ofString (tyName t)) p2] [] pos) :=
  .of (fun X r σ' hev => wpAny_Call_Name_kw (glob_bi (v := .builtin "isinstance") X hg hk (by kernel_rfl) (by decide) (by
    rw [show backTo pos (starEach [x, .Name (Str.ofString (tyName t)) p2] X.env) = [(false, eval x X.env), (false, eval (.Name (Str.ofString (tyName t)) p2) X.env)] by rw [star_plain hst, star_plain rfl]; rfl]
    exact callWith_of (P := G.K.In) rfl keeps_builtin (evalArgs_kw rfl (spliced_cons (ha.bind X .refl hev fun y yv w₁ σ₁ s₁ q hy hk1 => spliced_cons (hname (X.to q) _ _ (spliced_nil (wpAny_evalAll_nil ⟨(X.to q).B.kin q.S, retB_inv hk1 fun b hb => wp_out q.ahead (isinstV_sound q.S (X.to q).B hy ht hd hb)⟩))))))))) fun _ _ => rfl
theorem sim_chain {a b d : E} {l m r : Expr} (hns : notSetE r = true) (ha : Sim G n cx a l) (hb : Sim G n cx b m) (hd : Sim G n cx d r) :
    Sim G n cx (.chain a b d) (.Compare l [.LtE, .LtE] [m, r] pos) := by
  have hm : lastMarks [CmpOp.LtE, CmpOp.LtE] [m, r] = false := marks_of (op := .LtE) hns
  have core : ∀ (X : Pt G n cx) (rr : Res V) (σ' : St) (R : Value → Shared → Prop) (R' : Shared → Prop), X.ev (.chain a b d) = some (rr, σ') → (∀ t w' s', Post G X.w X.s w' σ' s' → rr = .ok (.bool t) → R (.bool t) s' ∧ (t = false → R' s')) →
      wpAny G.M X.A (eval l X.env) (fun x s₁ => wpAny G.M X.A (eval m X.env) (fun y s₂ => wpAny G.M X.A (compareOp .LtE x y) (fun v s₃ => wpAny G.M X.A (truthy v) (fun t s₄ => if t then
        wpAny G.M X.A (eval r X.env) (fun z s₅ => wpAny G.M X.A (compareOp .LtE y z) R (QX G X.w X.s X.envs rr σ') s₅) (QX G X.w X.s X.envs rr σ') s₄ else v = .bool false ∧ R (.bool false) s₄ ∧ R' s₄) (QX G X.w X.s X.envs rr σ') s₃) (QX G X.w X.s X.envs rr σ') s₂) (QX G X.w X.s X.envs rr σ') s₁) (QX G X.w X.s X.envs rr σ') X.s :=
    fun X rr σ' R R' hev hR => ha.bind X .refl hev fun x xv w₁ σ₁ s₁ p hx hk => hb.bind (X.to p) p.ahead hk fun y yv w₂ σ₂ s₂ q hy hk => by
      obtain ⟨t, ht, hk⟩ := onO_inv hk
      refine cmpV_sound (op := .le) q.S X.u64 (hx.mono q.hw.sub) hy ht fun tk => wpAny_truthy_bool ?_
      have p2 := (p.ahead.step q).post (q.S.postH (tk := tk) (h := s₂.heap) (s := s₂))
      cases t with
      | false =>
        cases hk
        have h := hR false w₂ _ p2 rfl
        exact ⟨rfl, h.1, h.2 rfl⟩
      | true =>
        refine hd.bind (X.to p2) p2.ahead hk fun z zv w₃ σ₃ s₃ q3 hz hk => ?_
        obtain ⟨t, ht, e⟩ := Option.map_eq_some_iff.mp hk
        cases e
        exact cmpV_sound (op := .le) q3.S X.u64 (hy.mono q3.hw.sub) hz ht fun tk => (hR t w₃ _ ((p2.ahead.step q3).post q3.S.postH) rfl).1
  refine ⟨fun X rr σ' hev => Compare_chain (rs := []) (ops := []) (wpAny_mono (core X rr σ' (QV G (VR G) X.w X.s rr σ') (fun _ => True) hev fun t w' s' p e => ⟨by subst e; exact ⟨w', p, .bool _⟩, fun _ => trivial⟩) (fun x s₁ h => chain_link (wpAny_mono h (fun y s₂ h => wpAny_mono h (fun v s₃ h => wpAny_mono h (fun t s₄ h => ?_) fun _ _ q => q) fun _ _ q => q) fun _ _ q => q)) fun _ _ q => q) hm,
    fun X rr σ' hev ht => isTrue_chain (rs := []) (ops := []) (wpAny_mono (core X rr σ' (fun v s => wpAny G.M X.A (truthy v) (QV G (fun _ a t => truthV σ' a = some t) X.w X.s rr σ') (QX G X.w X.s X.envs rr σ') s) (fun s => QV G (fun _ a t => truthV σ' a = some t) X.w X.s rr σ' false s) hev fun t w' s' p e => by subst e; exact ⟨wpAny_truthy_bool ⟨w', p, rfl⟩, fun e => by subst e; exact ⟨w', p, rfl⟩⟩) (fun x s₁ h => test_link (wpAny_mono h (fun y s₂ h => wpAny_mono h (fun v s₃ h => wpAny_mono h (fun t s₄ h => ?_) fun _ _ q => q) fun _ _ q => q) fun _ _ q => q)) fun _ _ q => q) hm⟩
  · cases t with
    | true => exact chain_last h
    | false => have h : v = .bool false ∧ _ := h; rw [h.1]; exact h.2.1
  · cases t with
    | true => exact test_last h
    | false => exact h.2.2
end
end Lw
namespace Lw
open PySem PySem.W PySem.Calls PyProof.Rows
structure Frm (w₀ w : Wd) (env : Env) : Prop where
  frm : env.frame = some env.locals
  out : w₀.m env.locals = none
  cout : ∀ x a, env.cells.lookup x = some a → w₀.m a = none
  cells : ∀ x a, env.cells.lookup x = some a → ∃ o v, w.m a = some (.fr o) ∧ o.data = .cell v
  inj : ∀ x y a, env.cells.lookup x = some a → env.cells.lookup y = some a → x = y
theorem Frm.mono {w₀ w w' : Wd} {env : Env} (M : Frm w₀ w env) (h : w.Le w') : Frm w₀ w' env :=
  ⟨M.frm, M.out, M.cout, fun x a e => let ⟨o, v, p, q⟩ := M.cells x a e; ⟨o, v, h.m _ _ p, q⟩, M.inj⟩
structure PtS (G : Gl) (n : Nat) (cx : Cxt) where
  hd : Bool
  dr : Bool
  w₀ : Wd
  w : Wd
  ρ : Rho
  σ : St
  env : Env
  envs : List Env
  A : Around
  s : Shared
  B : Base G w₀
  le : w₀.Le w
  S : SR G w σ s.heap
  F : FR G w env cx.vis ρ
  M : Frm w₀ w env
  hn : Fits G cx env
  hA : AOK A n hd w₀ envs
  fr : A.frames = some (env :: envs)
structure SPost (G : Gl) (vis : List (Str × Nat)) (w₀ : Wd) (s : Shared) (env : Env) (w' : Wd) (ρ' : Rho) (σ' : St) (s' : Shared) : Prop where
  hs : Same s s'
  le : w₀.Le w'
  S : SR G w' σ' s'.heap
  F : FR G w' env vis ρ'
  M : Frm w₀ w' env
noncomputable def QS (G : Gl) (vis : List (Str × Nat)) (w₀ : Wd) (s : Shared) (env : Env) : Fl → Rho → St → Flow → Shared → Prop
  | .next, ρ', σ' => fun f s' => f = .next ∧ ∃ w', SPost G vis w₀ s env w' ρ' σ' s'
  | .ret v, ρ', σ' => fun f s' => ∃ x w', f = .ret x ∧ SPost G vis w₀ s env w' ρ' σ' s' ∧ VR G w' v x
  | .exc _, _, _ => fun _ _ => False
noncomputable def XM (G : Gl) (w : Wd) (s : Shared) (x : String) (σ' : St) (e : Value) (s' : Shared) : Prop :=
  ∃ (ea C : Addr) (args : List Value) (h : Heap), e = .ref ea ∧ ExcCls G x C ∧ Same s s' ∧ SR G w σ' h ∧ Heap.MadeExcOf h s'.heap ea (.ref C) args
noncomputable def QXS (G : Gl) (vis : List (Str × Nat)) (w₀ : Wd) (s : Shared) (env : Env) (envs : List Env) (dr : Bool) : Fl → Rho → St → Value → Shared → Prop
  | .exc x, ρ', σ' => fun e s' => ∃ w₁, w₀.Le w₁ ∧ FR G w₁ env vis ρ' ∧ Frm w₀ w₁ env ∧ (XP G w₁ s (env :: envs) x σ' e s' ∨ (dr = true ∧ XM G w₁ s x σ' e s'))
  | _, _, _ => fun _ _ => False
section
variable {G : Gl} {n : Nat} {cx : Cxt} {w w' w₀ : Wd} {s s' s₀ : Shared} {σ σ' : St} {ρ ρ' : Rho} {env : Env} {envs : List Env} {fl : Fl} {vis : List (Str × Nat)} {pos : Pos}
theorem SPost.mono (hs : Same s₀ s) (q : SPost G vis w₀ s env w' ρ' σ' s') : SPost G vis w₀ s₀ env w' ρ' σ' s' := ⟨hs.trans q.hs, q.le, q.S, q.F, q.M⟩
theorem QS.mono {f : Flow} (hs : Same s₀ s) (q : QS G vis w₀ s env fl ρ' σ' f s') : QS G vis w₀ s₀ env fl ρ' σ' f s' := by
  cases fl with
  | next => exact ⟨q.1, let ⟨w', p⟩ := q.2; ⟨w', p.mono hs⟩⟩
  | ret => exact let ⟨x, w', e, p, v⟩ := q; ⟨x, w', e, p.mono hs, v⟩
  | exc => exact q
theorem QXS.mono {dr : Bool} {e : Value} (hs : Same s₀ s) (q : QXS G vis w₀ s env envs dr fl ρ' σ' e s') : QXS G vis w₀ s₀ env envs dr fl ρ' σ' e s' := by
  cases fl with
  | exc => exact let ⟨w₁, a, b, c, d⟩ := q; ⟨w₁, a, b, c, d.imp (fun d => d.mono ⟨hs, .refl _⟩) fun ⟨e, ea, C, args, h, e1, e2, e3, r⟩ => ⟨e, ea, C, args, h, e1, e2, hs.trans e3, r⟩⟩
  | _ => exact q
noncomputable def PtS.pt (Y : PtS G n cx) : Pt G n cx where
  hd := Y.hd
  w := Y.w
  ρ := Y.ρ
  σ := Y.σ
  env := Y.env
  envs := Y.env :: Y.envs
  A := Y.A
  s := Y.s
  B := Y.B.mono Y.le.sub
  S := Y.S
  F := Y.F
  hn := Y.hn
  hA := ⟨Y.hA.handled, Y.hA.depth, Y.hA.units, fun e q => (List.mem_cons.mp q).elim (fun q => q ▸ ⟨Y.F.kind, let ⟨o, _, a, _⟩ := Y.F.ns; ⟨_, o, Y.M.frm, a⟩⟩) fun q => let ⟨a, L, o, x, y⟩ := Y.hA.frs e q; ⟨a, L, o, x, Y.le.m _ _ y⟩⟩
  fr := Y.fr
noncomputable def PtS.to (Y : PtS G n cx) (p : Post G Y.w Y.s w' σ' s') : PtS G n cx := { Y with w := w', σ := σ', s := s', le := Y.le.trans p.hw, S := p.S, F := Y.F.mono p.hw, M := Y.M.mono p.hw }
noncomputable def PtS.next (Y : PtS G n cx) (q : SPost G cx.vis Y.w₀ s Y.env w' ρ' σ' s') : PtS G n cx := { Y with w := w', ρ := ρ', σ := σ', s := s', le := q.le, S := q.S, F := q.F, M := q.M }
theorem PtS.post (Y : PtS G n cx) : SPost G cx.vis Y.w₀ Y.s Y.env Y.w Y.ρ Y.σ Y.s := ⟨.refl _, Y.le, Y.S, Y.F, Y.M⟩
noncomputable def PtS.exec (Y : PtS G n cx) (ir : Lw.S) : RS := Lw.exec G.P (run G.P n) Y.hd Y.dr ir Y.ρ Y.σ
noncomputable def PtS.execs (Y : PtS G n cx) (ir : List Lw.S) : RS := Lw.execs G.P (run G.P n) Y.hd Y.dr ir Y.ρ Y.σ
noncomputable def PtS.Qs (Y : PtS G n cx) (fl : Fl) (ρ' : Rho) (σ' : St) : Flow → Shared → Prop := QS G cx.vis Y.w₀ Y.s Y.env fl ρ' σ'
noncomputable def PtS.Qx (Y : PtS G n cx) (fl : Fl) (ρ' : Rho) (σ' : St) : Value → Shared → Prop := QXS G cx.vis Y.w₀ Y.s Y.env Y.envs Y.dr fl ρ' σ'
noncomputable def PtS.Runs (Y : PtS G n cx) (st : Stmt) (fl : Fl) (ρ' : Rho) (σ' : St) : Prop := wpAny G.M Y.A (PySem.exec st Y.env) (Y.Qs fl ρ' σ') (Y.Qx fl ρ' σ') Y.s
noncomputable def PtS.RunsL (Y : PtS G n cx) (st : List Stmt) (fl : Fl) (ρ' : Rho) (σ' : St) : Prop := wpAny G.M Y.A (PySem.execs st Y.env) (Y.Qs fl ρ' σ') (Y.Qx fl ρ' σ') Y.s
noncomputable def SimS (G : Gl) (n : Nat) (cx : Cxt) (ir : S) (st : Stmt) : Prop := ∀ (Y : PtS G n cx) (fl : Fl) (ρ' : Rho) (σ' : St), Y.exec ir = some (fl, ρ', σ') → Y.Runs st fl ρ' σ'
noncomputable def SimSs (G : Gl) (n : Nat) (cx : Cxt) (ir : List S) (st : List Stmt) : Prop := ∀ (Y : PtS G n cx) (fl : Fl) (ρ' : Rho) (σ' : St), Y.execs ir = some (fl, ρ', σ') → Y.RunsL st fl ρ' σ'
theorem Sim.bindS {a : E} {e : Expr} {k : V → St → RS} {R : Value → Shared → Prop} (ha : Sim G n cx a e) (Y : PtS G n cx) (hs : Same s₀ Y.s) (hev : bindE (Y.pt.ev a) Y.ρ k = some (fl, ρ', σ'))
    (hk : ∀ x xv w₁ σ₁ s₁ (_ : Post G Y.w Y.s w₁ σ₁ s₁), VR G w₁ x xv → k x σ₁ = some (fl, ρ', σ') → R xv s₁) :
    wpAny G.M Y.A (eval e Y.env) R (QXS G cx.vis Y.w₀ s₀ Y.env Y.envs Y.dr fl ρ' σ') Y.s := by
  cases h1 : Y.pt.ev a with
  | none => rw [h1] at hev; exact no hev
  | some q =>
    rw [h1] at hev
    obtain ⟨x | x, σ₁⟩ := q
    · exact wpAny_mono (ha.v Y.pt _ _ h1) (fun v s₁ ⟨w₁, p, hv⟩ => hk _ _ _ _ _ p hv hev) fun _ _ q => q.elim
    · cases hev
      exact wpAny_mono (ha.v Y.pt _ _ h1) (fun _ _ q => q.elim) fun _ _ q => ⟨Y.w, Y.le, Y.F, Y.M, .inl (q.mono ⟨hs, .refl _⟩)⟩
theorem swaps_plain {v : Expr} {t : Option Expr} {l : Nat} (h : notComp v = true) : swapsWith v t l env = pure false := by
  cases v <;> first | rfl | exact noB h
theorem not_interactive (h : env.scope.kind = .function) : interactive env = false := by unfold interactive; rw [h]; rfl
theorem PtS.done (Y : PtS G n cx) (p : Post G Y.w Y.s w' σ' s') : SPost G cx.vis Y.w₀ Y.s Y.env w' Y.ρ σ' s' := ⟨p.hs, Y.le.trans p.hw, p.S, Y.F.mono p.hw, Y.M.mono p.hw⟩
theorem sim_expr {a : E} {e : Expr} (hc : notComp e = true) (ha : Sim G n cx a e) : SimS G n cx (.expr a) (.Expr e pos) := fun Y fl ρ' σ' hev =>
  wpAny_Expr_any (ha.bindS Y (.refl _) hev fun x xv w₁ σ₁ s₁ p hx hk => by cases hk; exact ⟨rfl, w₁, Y.done p⟩) (not_interactive Y.F.kind) (swaps_plain hc)
theorem sim_ret {a : E} {e : Expr} (ha : Sim G n cx a e) : SimS G n cx (.ret a) (.Return (some e) pos) := fun Y fl ρ' σ' hev =>
  wpAny_Return_some (ha.bindS Y (.refl _) hev fun x xv w₁ σ₁ s₁ p hx hk => by cases hk; exact ⟨xv, w₁, rfl, Y.done p, hx⟩)
noncomputable def VisOK (vis : List (Str × Nat)) : Prop := ∀ x y k, vis.lookup x = some k → vis.lookup y = some k → x = y
theorem upd_inv {ρ : Rho} {k j : Nat} {v u : V} (h : upd ρ k v j = some u) : (j = k ∧ v = u) ∨ (j ≠ k ∧ ρ j = some u) := by
  by_cases q : j = k
  · exact .inl ⟨q, Option.some.inj ((if_pos q).symm.trans h)⟩
  · exact .inr ⟨q, (if_neg q).symm.trans h⟩
theorem ObjNs.nf {o : Obj} {m : Str → Option Value} (h : ObjNs o m) : ∀ vs, o.data ≠ .fields vs := fun vs e => by
  obtain ⟨es, ep, q, _⟩ := h; rw [q] at e; cases e
theorem okFr {h : Heap} {a : Addr} {o : Obj} (hn : ∀ vs, o.data ≠ .fields vs) (e : h.get? a = some o) : OwnOk h a (.fr o) := ⟨hn, o.slots, e⟩
theorem store_local {x : Str} {k : Nat} {v : V} {y : Value} {Ex : Value → Shared → Prop} (Y : PtS G n cx) (hvis : VisOK cx.vis) (hx : cx.vis.lookup x = some k) (hl : cx.scope.names.lookup x = some .local) (hv : VR G Y.w v y) :
    wpAny G.M Y.A (storeName Y.env x y) (fun _ s' => ∃ w', SPost G cx.vis Y.w₀ Y.s Y.env w' (upd Y.ρ k v) Y.σ s' ∧ Y.w.Sub w') Ex Y.s := by
  rw [← Y.hn.names] at hl
  obtain ⟨ob, _, hm, hns0, _⟩ := Y.F.ns
  obtain ⟨m, hns, hread⟩ := Y.F.locals Y.S
  refine wpAny_storeName_local (m := m) hl hns (fun h' hn' hs' => ?_) (by rw [Y.F.kind]; rfl)
  obtain ⟨o', ho', hN⟩ := ObjNs.of hn'
  have sub : Y.w.Sub (Y.w.set Y.env.locals (.fr o')) := sub_set hm fun _ q => nomatch q
  have ne : ∀ z a, Y.env.cells.lookup z = some a → a ≠ Y.env.locals := fun z a e q => by
    obtain ⟨o, v, e1, e2⟩ := Y.M.cells z a e
    rw [q, hm] at e1; cases e1
    obtain ⟨es, ep, q, _⟩ := hns0
    rw [q] at e2; cases e2
  have le : Y.w₀.Le (Y.w.set Y.env.locals (.fr o')) := ⟨fun b z e => (Wd.set_ne fun q => by rw [q, Y.M.out] at e; cases e).trans (Y.le.m b z e), Y.le.φ⟩
  refine ⟨_, ⟨.of _ _ _, le, Y.S.turnF hm (fun b z hb e => (hs'.2 b hb).trans e) (okFr hN.nf ho'), ⟨Y.F.kind, Y.F.glob, Y.F.bi, ⟨o', _, Wd.set_at, hN, fun z j u e1 e2 e3 => ?_⟩, fun z j u e1 e2 e3 => ?_⟩, Y.M.frm, Y.M.out, Y.M.cout, fun z a e => let ⟨o, v, p, q⟩ := Y.M.cells z a e; ⟨o, v, (Wd.set_ne (ne z a e)).trans p, q⟩, Y.M.inj⟩, sub⟩
  · rcases upd_inv e3 with ⟨rfl, rfl⟩ | ⟨hj, e3⟩
    · exact ⟨y, if_pos (hvis z x j e1 hx), hv.mono sub⟩
    · obtain ⟨a, b, d⟩ := hread z j u e1 e2 e3
      exact ⟨a, (if_neg fun q => hj (Option.some.inj ((q ▸ e1).symm.trans hx))).trans b, d.mono sub⟩
  · rcases upd_inv e3 with ⟨rfl, rfl⟩ | ⟨hj, e3⟩
    · rw [hvis z x j e1 hx, hl] at e2; rcases e2 with e2 | e2 <;> cases e2
    · obtain ⟨a, o, t, d1, d2, d3, d4⟩ := Y.F.cells z j u e1 e2 e3
      exact ⟨a, o, t, d1, (Wd.set_ne (ne z a d1)).trans d2, d3, d4.mono sub⟩
theorem store_cell {x : Str} {k : Nat} {v : V} {y : Value} {Ex : Value → Shared → Prop} (Y : PtS G n cx) (hvis : VisOK cx.vis) (hx : cx.vis.lookup x = some k) (hl : cx.scope.names.lookup x = some .cell) (hv : VR G Y.w v y) :
    wpAny G.M Y.A (storeName Y.env x y) (fun _ s' => ∃ w', SPost G cx.vis Y.w₀ Y.s Y.env w' (upd Y.ρ k v) Y.σ s' ∧ Y.w.Sub w') Ex Y.s := by
  obtain ⟨a, ha⟩ := Option.isSome_iff_exists.mp (Y.hn.cells x hl)
  rw [← Y.hn.names] at hl
  obtain ⟨ob, v₀, hcs, hob⟩ := Y.M.cells x a ha
  obtain ⟨_, sl, hat⟩ := Y.S.m _ _ hcs
  refine wpAny_storeName_cell Y.F.kind hl ha ⟨_, hat, hob⟩ fun h' hc' hs' => ?_
  obtain ⟨ob', ho', hd'⟩ := hc'
  have sub : Y.w.Sub (Y.w.set a (.fr ob')) := sub_set hcs fun _ q => nomatch q
  have le : Y.w₀.Le (Y.w.set a (.fr ob')) := ⟨fun b z e => (Wd.set_ne fun q => by rw [q, Y.M.cout x a ha] at e; cases e).trans (Y.le.m b z e), Y.le.φ⟩
  refine ⟨_, ⟨.of _ _ Y.s.toks, le, Y.S.turnF hcs (fun b z hb e => (hs'.2 b hb).trans e) (okFr (fun vs e => by rw [hd'] at e; cases e) ho'), ⟨Y.F.kind, Y.F.glob, Y.F.bi, ?_, fun z j u e1 e2 e3 => ?_⟩, Y.M.frm, Y.M.out, Y.M.cout, fun z b e => ?_, Y.M.inj⟩, sub⟩
  · obtain ⟨o1, m, q, r, t⟩ := Y.F.ns
    refine ⟨o1, m, (Wd.set_ne fun e => ?_).trans q, r, fun z j u e1 e2 e3 => ?_⟩
    · rw [e, hcs] at q; cases q
      obtain ⟨es, ep, q, _⟩ := r
      rw [q] at hob; cases hob
    · rcases upd_inv e3 with ⟨rfl, rfl⟩ | ⟨hj, e3⟩
      · rw [hvis z x j e1 hx, hl] at e2; cases e2
      · obtain ⟨y1, p1, q1⟩ := t z j u e1 e2 e3; exact ⟨y1, p1, q1.mono sub⟩
  · rcases upd_inv e3 with ⟨rfl, rfl⟩ | ⟨hj, e3⟩
    · rw [hvis z x j e1 hx]; exact ⟨a, ob', y, ha, Wd.set_at, hd', hv.mono sub⟩
    · obtain ⟨b, o1, y1, d1, d2, d3, d4⟩ := Y.F.cells z j u e1 e2 e3
      exact ⟨b, o1, y1, d1, (Wd.set_ne fun e => hj (Option.some.inj ((Y.M.inj z x a (e ▸ d1) ha ▸ e1).symm.trans hx))).trans d2, d3, d4.mono sub⟩
  · by_cases q : b = a
    · subst q; exact ⟨ob', _, Wd.set_at, hd'⟩
    · obtain ⟨o, v, e1, e2⟩ := Y.M.cells z b e; exact ⟨o, v, (Wd.set_ne q).trans e1, e2⟩
theorem store_name {x : Str} {k : Nat} {v : V} {y : Value} {Ex : Value → Shared → Prop} (Y : PtS G n cx) (hvis : VisOK cx.vis) (hx : cx.vis.lookup x = some k) (hl : cx.scope.names.lookup x = some .local ∨ cx.scope.names.lookup x = some .cell) (hv : VR G Y.w v y) :
    wpAny G.M Y.A (storeName Y.env x y) (fun _ s' => ∃ w', SPost G cx.vis Y.w₀ Y.s Y.env w' (upd Y.ρ k v) Y.σ s' ∧ Y.w.Sub w') Ex Y.s :=
  hl.elim (fun h => store_local Y hvis hx h hv) fun h => store_cell Y hvis hx h hv
theorem assign_at {a : E} {e : Expr} {k : Nat} {x : Str} {p : Pos} (Y : PtS G n cx) (hvis : VisOK cx.vis) (hx : cx.vis.lookup x = some k) (hl : cx.scope.names.lookup x = some .local ∨ cx.scope.names.lookup x = some .cell) (hc : swapsWith e (some (.Name x p)) pos.line Y.env = pure false) (ha : Sim G n cx a e)
    (hev : Y.exec (.assign k a) = some (fl, ρ', σ')) : wpAny G.M Y.A (PySem.exec (.Assign [.Name x p] e pos) Y.env) (QS G cx.vis Y.w₀ Y.s Y.env fl ρ' σ') (QXS G cx.vis Y.w₀ Y.s Y.env Y.envs Y.dr fl ρ' σ') Y.s :=
  wpAny_Assign_Name (ha.bindS Y (.refl _) hev fun y yv w₁ σ₁ s₁ p hy hk => by
    cases hk
    exact wpAny_mono (store_name (Y.to p) hvis hx hl hy) (fun _ s' ⟨w', q, _⟩ => ⟨rfl, w', q.mono p.hs⟩) fun _ _ q => q) hc
theorem sim_assign {a : E} {e : Expr} {k : Nat} {x : Str} {p : Pos} (hvis : VisOK cx.vis) (hx : cx.vis.lookup x = some k) (hl : cx.scope.names.lookup x = some .local ∨ cx.scope.names.lookup x = some .cell) (hc : notComp e = true) (ha : Sim G n cx a e) :
    SimS G n cx (.assign k a) (.Assign [.Name x p] e pos) := fun Y _ _ _ hev => assign_at Y hvis hx hl (swaps_plain hc) ha hev
theorem sims_nil : SimSs G n cx [] [] := fun Y fl ρ' σ' hev => by cases hev; exact wpAny_execs_nil ⟨rfl, Y.w, Y.post⟩
theorem sims_cons {a : S} {r : List S} {st : Stmt} {rest : List Stmt} (ha : SimS G n cx a st) (hr : SimSs G n cx r rest) : SimSs G n cx (a :: r) (st :: rest) := fun Y fl ρ' σ' hev => by
  have hev : bindS (Y.exec a) (fun ρ σ => Lw.execs G.P (run G.P n) Y.hd Y.dr r ρ σ) = some (fl, ρ', σ') := hev
  cases h1 : Y.exec a with
  | none => rw [h1] at hev; exact no hev
  | some q =>
    rw [h1] at hev
    obtain ⟨fl₁, ρ₁, σ₁⟩ := q
    have key := ha Y fl₁ ρ₁ σ₁ h1
    cases fl₁ with
    | next => exact wpAny_execs_cons (wpAny_mono key (fun f s₁ ⟨e, w₁, q⟩ => by subst e; exact wpAny_mono (hr (Y.next q) fl ρ' σ' hev) (fun _ _ z => z.mono q.hs) fun _ _ z => z.mono q.hs) fun _ _ q => q.elim)
    | ret v => cases hev; exact wpAny_execs_cons (wpAny_mono key (fun f s₁ q => by obtain ⟨x, w₁, rfl, q⟩ := q; exact ⟨x, w₁, rfl, q⟩) fun _ _ q => q.elim)
    | exc x => cases hev; exact wpAny_execs_cons (wpAny_mono key (fun _ _ q => q.elim) fun _ _ q => q)
theorem sim_ite {a : E} {t f : List S} {e : Expr} {ts fs : List Stmt} (ha : Sim G n cx a e) (ht : SimSs G n cx t ts) (hf : SimSs G n cx f fs) : SimS G n cx (.ite a t f) (.If e ts fs pos) := fun Y fl ρ' σ' hev => by
  have hev : bindE (Y.pt.ev a) Y.ρ (fun v σ => onO (truthV σ v) fun b => match b with | true => Lw.execs G.P (run G.P n) Y.hd Y.dr t Y.ρ σ | false => Lw.execs G.P (run G.P n) Y.hd Y.dr f Y.ρ σ) = some (fl, ρ', σ') := hev
  refine wpAny_If ?_
  cases h1 : Y.pt.ev a with
  | none => rw [h1] at hev; exact no hev
  | some q =>
    rw [h1] at hev
    obtain ⟨x | x, σ₁⟩ := q
    · obtain ⟨b, hb, hev⟩ := onO_inv hev
      refine wpAny_mono (ha.t Y.pt _ _ h1 fun _ q => by cases q; exact ⟨b, hb⟩) (fun v s₁ ⟨w₁, p, hv⟩ => ?_) fun _ _ q => q.elim
      have hv : truthV σ₁ x = some v := hv
      rw [hb] at hv; cases hv
      cases b with
      | true => exact wpAny_mono (ht (Y.to p) fl ρ' σ' hev) (fun _ _ z => z.mono p.hs) fun _ _ z => z.mono p.hs
      | false => exact wpAny_mono (hf (Y.to p) fl ρ' σ' hev) (fun _ _ z => z.mono p.hs) fun _ _ z => z.mono p.hs
    · cases hev
      exact wpAny_mono (ha.t Y.pt _ _ h1 fun _ q => by cases q) (fun _ _ q => q.elim) fun _ _ q => ⟨Y.w, Y.le, Y.F, Y.M, .inl q⟩
theorem FsR.put {fs : List (String × V)} {es : List DictEntry} {a : String} {v : V} {x : Value} {t : Tok} (r : FsR G w fs es) (hv : VR G w v x) :
    FsR G w (setF fs a v) (putL (Str.ofString a) (PyData.keyHash G.ω.params (Str.ofString a)) (.str (Str.ofString a) t) x es) := by
  induction r with
  | nil => exact .cons ⟨_, _, rfl, hv⟩ .nil
  | @cons bu d fs es hu hr ih =>
    obtain ⟨b, u⟩ := bu
    obtain ⟨t', y, rfl, hu⟩ := hu
    unfold setF putL
    by_cases q : b = a
    · subst q
      rw [if_pos rfl, if_pos (show (Value.str (Str.ofString b) t').isStr (Str.ofString b) = true by simp [Value.isStr])]
      exact .cons ⟨_, _, rfl, hv⟩ hr
    · rw [if_neg q, if_neg (show ¬ (Value.str (Str.ofString b) t').isStr (Str.ofString a) = true from fun e => absurd e (by rw [show (Value.str (Str.ofString b) t').isStr (Str.ofString a) = (Str.ofString b == Str.ofString a) from rfl, ofString_ne q]; exact Bool.false_ne_true))]
      exact .cons ⟨_, _, rfl, hu⟩ ih
theorem putL_len (name : Str) (hsh : Int) (key v : Value) (es : List DictEntry) : (putL name hsh key v es).length ≤ es.length + 1 := by
  induction es with
  | nil => exact Nat.le_refl _
  | cons e r ih =>
    unfold putL
    split
    · exact Nat.le_succ _
    · exact Nat.succ_le_succ ih
theorem osa_at {A : Around} {x C dx : Addr} {ox : Obj} {name : Str} {tk : Tok} {v : Value} {es : List DictEntry} {k : Nat} {R : Result → Shared → Prop} (X : G.K.In s.heap)
    (I : InstAt s.heap x ox C (some (dictOf es k))) (hd : ox.dict = some dx) (hp : plainOver G.K C = true) (ht : takerIn G.K C name = some none) (hh : (clsIn G.K C).any (·.hasDict) = true)
    (hl : (lookIn name (dictOf es k)).isSome = true) (D : s.heap.get? dx = some (dictOf es k)) (hz : es.length ≤ 900)
    (h : ∀ h', Heap.SameBut dx s.heap h' → h'.get? dx = some (dictOf (putL name (PyData.keyHash G.ω.params name) (.str name s.toks) v es) (putN name es k)) → R (.ok (.ret .none)) { s with heap := h', toks := s.toks + 1 }) :
    codeAny G.M A (.call (.builtin "object.__setattr__") ⟨[.ref x, .str name tk, v], []⟩) R s := by
  refine osa_open X I hp ht fun b => ?_
  obtain ⟨cd, hc, hd'⟩ := any_some hh
  have D' : (s.heap.update dx (Obj.putName name (PyData.keyHash G.ω.params name) (.str name s.toks) v)).get? dx = some (dictOf (putL name (PyData.keyHash G.ω.params name) (.str name s.toks) v es) (putN name es k)) := by
    rw [Heap.get?_update_self _ D (by rw [putName_dict]; rfl), putName_dict]
  obtain ⟨hx, hcl, hn, -⟩ := I
  obtain ⟨oc, odi, oda, osl⟩ := ox
  dsimp only at hcl hd
  subst hcl hd
  refine wpAny_bind (wpAny_pure (wpAny_bind (wpAny_bind (wpAny_loadPart hx (wpAny_bind ((looks_clsIn X hc).here ?_))))))
  rw [hd']
  refine wpAny_pure (a := some dx) (wpAny_bind (wpAny_pure (wpAny_bind ?_)))
  unfold nsSet
  refine wpAny_bind (wpAny_bind (wpAny_askSetting (wpAny_pure (wpAny_bind (wpAny_mkText (wpAny_bind (wpAny_loadPart D ?_)))))))
  have c : (!(es.toArray.any (·.key.isStr name)) && es.toArray.any (·.refKey)) = false := by
    unfold lookIn dictOf at hl
    simp only at hl
    rw [← Array.any_toList, ← Array.any_toList]
    split at hl
    · rename_i en he
      rw [List.any_eq_true.mpr ⟨en, List.mem_of_find?_eq_some he, List.find?_some he⟩]; rfl
    · split at hl
      · cases hl
      · rename_i z; rw [Bool.not_eq_true] at z; rw [z, Bool.and_false]
  unfold dictOf at D ⊢
  dsimp only
  rw [aRefKeyMayBeTheName_at, c]
  refine wpAny_updatePart D ?_
  refine wpAny_bind (wpAny_lookBehind D' (pastItsLine_dict (by rw [List.size_toArray, sizeLine_eq]; have := putL_len name (PyData.keyHash G.ω.params name) (.str name s.toks) v es; lia)) ?_)
  exact wpAny_pure (h _ (Heap.SameBut.update ..) D')
theorem setattr_sound {A : Around} {ov v : V} {ox x : Value} {a : String} {Ex : Value → Shared → Prop} (B : Base G w) (S : SR G w σ s.heap) (ho : VR G w ov ox) (hx : VR G w v x) (ha : a ∈ G.com.attrs) (h : setattrV ov a v σ = some σ') :
    wpAny G.M A (setAttr ox (Str.ofString a) x) (fun _ s' => Post G w s w σ' s') Ex s := by
  obtain ⟨i, rfl, h⟩ := withRef_inv h
  obtain ⟨o, hg, h⟩ := onO_inv h
  obtain ⟨o', ho', rfl⟩ := Option.map_eq_some_iff.mp h
  cases o with
  | inst cn fs =>
    obtain ⟨hlen, h⟩ := if_inv ho'
    cases h
    obtain ⟨p, hp, rfl⟩ := ho.refv
    obtain ⟨C, es, k, I, hC, hcn, m2, m1⟩ := inst_of B S hp hg
    refine set_plain (B.kin S) I.I I.ok.sa (osa_at (s := { s with toks := s.toks + 1 }) (B.kin S) I.I rfl I.ok.po ?_ ?_ ?_ I.I.dict ?_ fun h' hS hat => ?_)
    · unfold takerIn; rw [I.ok.at_ a ha]; rfl
    · exact I.ok.hd
    · cases q : lk fs a with
      | none => rw [(fs_look (k := k) I.fs a).2 q]; rfl
      | some u => obtain ⟨y, hy, _⟩ := (fs_look (k := k) I.fs a).1 u q; rw [hy]; rfl
    · rw [← All2.length I.fs]; exact Nat.le_trans (Nat.le_of_lt hlen) (by decide)
    · exact ⟨.of _ _ _, .refl _, S.upd hp m2 hS ⟨_, hat⟩ ⟨m2, C, _, _, (hS.2 p.1 I.ne).trans I.I.1, m1, hat, I.ne, hcn, hC, I.fs.put hx⟩⟩
  | _ => exact no ho'
theorem nextS_inv {o : Option St} (h : nextS o ρ = some (fl, ρ', σ')) : ∃ σ₁, o = some σ₁ ∧ fl = .next ∧ ρ' = ρ ∧ σ' = σ₁ := by
  cases o with
  | none => exact no h
  | some σ₁ => cases h; exact ⟨_, rfl, rfl, rfl, rfl⟩
theorem sim_setattr {oe ve : Expr} {a : String} {e1 e2 : E} {p : Pos} (hat : cx.attrs.contains a = true) (hc : notComp ve = true) (ho : Sim G n cx e1 oe) (hv : Sim G n cx e2 ve) : SimS G n cx (.setattr e1 a e2) (.Assign [.Attribute oe (Str.ofString a) p] ve pos) := fun Y fl ρ' σ' hev =>
  plainObj_wpAny_Assign_Attribute (hv.bindS Y (.refl _) hev fun y yv w₁ σ₁ s₁ p hy hk => ho.bindS (Y.to p) p.hs hk fun x xv w₂ σ₂ s₂ q hx hk => by
    obtain ⟨σ₃, h3, rfl, rfl, rfl⟩ := nextS_inv hk
    exact wpAny_mono (setattr_sound ((Y.to p).to q).pt.B q.S hx (hy.mono q.hw.sub) (Y.pt.attr hat) h3) (fun _ s' z => ⟨rfl, w₂, Y.done (p.ahead.post (q.ahead.post z))⟩) fun _ _ z => z) (swaps_plain hc)
theorem setD_sound {A : Around} {κ : Type} [DecidableEq κ] {knd : PySem.KeyKind G.prog G.ω κ} {i : Nat} {es : List (κ × V)} {p : Addr × Addr} {k : κ} {v : V} {o : O} {x y : Value} {Ex : Value → Shared → Prop} (S : SR G w σ s.heap) (hp : w.φ[i]? = some p) (r : DRel G w s.heap i p knd false es) (hk : knd.is k y = true) (hx : VR G w v x) (hl : es.length < lim)
    (hO : ∀ h', DRel G w h' i p knd false (st es k v) → ORel G w h' i p o) : wpAny G.M A (setItem (.ref p.1) y x) (fun _ s' => Post G w s w (σ.set i o) s') Ex s := by
  obtain ⟨ep, ob, kvs, r1, rm, r2, r3, r4, r5⟩ := r
  refine wpAny_setItem_pairs (knd := knd) (k := k) hk (Heap.dictOf_iff.mpr ⟨ob, r1, r2⟩) (fun h' hD' hS => ?_) (All2.length r3 ▸ lim_size0 r4)
  obtain ⟨o', ho', hdo⟩ := Heap.dictOf_iff.mp hD'
  exact ⟨.of _ _ _, .refl _, S.upd hp rm hS ⟨_, ho'⟩ (hO h' ⟨ep, o', _, ho', rm, hdo, r3.st k hx, Nat.le_trans (len_st _ _ _) hl, r5⟩)⟩
theorem mem_st {κ : Type} [DecidableEq κ] {es : List (κ × V)} {k : κ} {v : V} {P : κ → Prop} (h : ∀ kv ∈ es, P kv.1) (hk : P k) : ∀ kv ∈ st es k v, P kv.1 := by
  intro kv q
  unfold st at q
  split at q
  · obtain ⟨kv', hm, e⟩ := List.mem_map.mp q
    split at e <;> subst e <;> exact h kv' hm
  · rcases List.mem_append.mp q with q | q
    · exact h kv q
    · rw [List.mem_singleton.mp q]; exact hk
theorem setidx_sound {A : Around} {ov k v : V} {ox kx x : Value} {Ex : Value → Shared → Prop} (S : SR G w σ s.heap) (ho : VR G w ov ox) (hk : VR G w k kx) (hx : VR G w v x) (h : setidxV ov k v σ = some σ') : wpAny G.M A (setItem ox kx x) (fun _ s' => Post G w s w σ' s') Ex s := by
  obtain ⟨i, rfl, h⟩ := withRef_inv h
  obtain ⟨o, hg, h⟩ := onO_inv h
  obtain ⟨o', ho', rfl⟩ := Option.map_eq_some_iff.mp h
  obtain ⟨p, hp, rfl⟩ := ho.refv
  have rr := S.ref hp hg
  cases o with
  | di l es =>
    cases l with
    | true => exact no ho'
    | false =>
      obtain ⟨k, rfl, h2⟩ := withInt_inv ho'
      obtain ⟨hl, h3⟩ := if_inv h2
      cases h3
      obtain ⟨t, rfl⟩ := hk.intv
      exact setD_sound S hp rr (isInt_self _ _) hx hl fun _ r => r
  | ds l es =>
    cases l with
    | true => exact no ho'
    | false =>
      obtain ⟨k, rfl, h2⟩ := withStr_inv ho'
      obtain ⟨hl, h3⟩ := if_inv h2
      cases h3
      obtain ⟨t, rfl, hok⟩ := hk.strv
      exact setD_sound S hp rr.1 (strKind_is _ _ _ _) hx hl fun _ r => ⟨r, mem_st (P := fun x => sOk x = true) rr.2 hok⟩
  | _ => exact no ho'
theorem sim_setidx {oe ie ve : Expr} {e1 e2 e3 : E} {p : Pos} (hc : notComp ve = true) (ho : Sim G n cx e1 oe) (hi : Sim G n cx e2 ie) (hv : Sim G n cx e3 ve) : SimS G n cx (.setidx e1 e2 e3) (.Assign [.Subscript oe ie p] ve pos) := fun Y fl ρ' σ' hev =>
  wpAny_Assign_Subscript (hv.bindS Y (.refl _) hev fun y yv w₁ σ₁ s₁ p hy hk => ho.bindS (Y.to p) p.hs hk fun x xv w₂ σ₂ s₂ q hx hk => hi.bindS ((Y.to p).to q) (p.hs.trans q.hs) hk fun z zv w₃ σ₃ s₃ u hz hk => by
    obtain ⟨σ₃, h3, rfl, rfl, rfl⟩ := nextS_inv hk
    exact wpAny_mono (setidx_sound u.S (hx.mono u.hw.sub) hz ((hy.mono q.hw.sub).mono u.hw.sub) h3) (fun _ s' z => ⟨rfl, w₃, Y.done (p.ahead.post (q.ahead.post (u.ahead.post z)))⟩) fun _ _ z => z) (swaps_plain hc)
end
end Lw
namespace Lw
open PySem PySem.W PySem.Calls PyProof.Rows
noncomputable def Own.ex : Own → Option Obj
  | .fix o => some o | .own o => some o | .lk _ o => some o | _ => none
noncomputable def Wd.del (w : Wd) (a : Addr) : Wd := { w with m := fun x => if x = a then none else w.m x }
section
variable {G : Gl} {n : Nat} {cx : Cxt} {w w' w₀ w₁ : Wd} {s s' s₀ : Shared} {σ σ' σ₁ : St} {h h' h₁ : Heap} {a : Addr} {x : Own} {i : Nat} {p : Addr × Addr} {q : O} {ob : Obj}
theorem OwnOk.exact {o : Obj} (e : x.ex = Option.some o) (k : OwnOk h a x) : h.get? a = Option.some o := by
  cases x with
  | fix => cases e; exact k
  | own => cases e; exact k
  | lk => cases e; exact k
  | _ => exact no e
theorem ex_nofr {x : Own} {o : Obj} (e : x.ex = some o) : ∀ z, x ≠ .fr z := fun z q => by rw [q] at e; exact no e
theorem Wd.del_ne {b : Addr} (hb : b ≠ a) : (w.del a).m b = w.m b := if_neg hb
theorem Wd.del_at : (w.del a).m a = none := if_pos rfl
theorem SR.del {x : Own} (S : SR G w σ h) (hs : w.m a = some x) (hf : ∀ z, x ≠ .fix z) (hu : w.Unheld a) (k : ∀ b y, b ≠ a → h.get? b = some y → h'.get? b = some y) : SR G (w.del a) σ h' := by
  have sub : w.Sub (w.del a) := ⟨fun b z e => (Wd.del_ne fun q => by rw [q, hs] at e; exact hf z (Option.some.inj e)).trans e, List.prefix_refl _⟩
  refine ⟨fun b o e => ?_, S.n, fun i o e => ?_⟩
  · by_cases q : b = a
    · subst q; rw [Wd.del_at] at e; cases e
    · rw [Wd.del_ne q] at e; exact (S.m b o e).keep fun _ z => k _ _ q z
  · obtain ⟨p, z, r⟩ := S.obj i o e
    obtain ⟨n1, n2⟩ := r.apart hu
    exact ⟨p, z, r.keep sub (Wd.del_ne n1) (Wd.del_ne n2) fun b y hb => k b y (by rcases hb with rfl | rfl; exact n1; exact n2)⟩
theorem lkOwn_inj {l l' : Bool} {i j : Nat} {o o' : Obj} (h : lkOwn l i o = lkOwn l' j o') : i = j := by
  cases l <;> cases l' <;> cases h <;> rfl
theorem lkOwn_nofix {l : Bool} {i : Nat} {o : Obj} : ∀ z, lkOwn l i o ≠ .fix z := fun z e => by cases l <;> cases e
theorem lkOwn_nofr {l : Bool} {i : Nat} {o : Obj} : ∀ z, lkOwn l i o ≠ .fr z := fun z e => by cases l <;> cases e
theorem SR.relock {l l' : Bool} (S : SR G w σ h) (hp : w.φ[i]? = some p) (hm : w.m p.1 = some (lkOwn l i ob)) (hob : h.get? p.1 = some ob) (r : ORel G (w.set p.1 (lkOwn l' i ob)) h i p q) : SR G (w.set p.1 (lkOwn l' i ob)) (σ.set i q) h := by
  refine ⟨fun b o e => ?_, S.n, fun j o e => ?_⟩
  · by_cases z : b = p.1
    · subst z; rw [Wd.set_at] at e; cases e
      cases l'
      · exact ⟨_, hob⟩
      · exact hob
    · rw [Wd.set_ne z] at e; exact S.m b o e
  · by_cases z : j = i
    · have e' : some q = some o := (if_pos z).symm.trans e
      cases e'; subst z
      exact ⟨p, hp, r⟩
    · obtain ⟨q', y, b⟩ := S.obj j o ((if_neg z).symm.trans e)
      obtain ⟨⟨l1, o1, m1⟩, l2, o2, m2⟩ := b.held
      have n1 : q'.1 ≠ p.1 := fun e => by rw [e, hm] at m1; exact z (lkOwn_inj (Option.some.inj m1)).symm
      have n2 : q'.2 ≠ p.1 := fun e => by rw [e, hm] at m2; exact z (lkOwn_inj (Option.some.inj m2)).symm
      exact ⟨q', y, b.keep (sub_set hm lkOwn_nofix) (Wd.set_ne n1) (Wd.set_ne n2) fun _ _ _ e => e⟩
structure Coll (G : Gl) (w : Wd) (h : Heap) (i : Nat) (p : Addr × Addr) (q : O) (ob : Obj) (l : Bool) : Prop where
  at_ : h.get? p.1 = some ob
  m : w.m p.1 = some (lkOwn l i ob)
  back : ∀ w' h', w.Sub w' → h'.get? p.1 = some ob → w'.m p.1 = some (lkOwn l i ob) → ORel G w' h' i p q
  lock : ∀ w' h', w.Sub w' → h'.get? p.1 = some ob → w'.m p.1 = some (lkOwn true i ob) → ORel G w' h' i p q.locked
theorem ORel.coll (hq : q.knd ≠ 0) (r : ORel G w h i p q) : ∃ ob l, Coll G w h i p q ob l := by
  cases q with
  | list l vs =>
    obtain ⟨e, xs, n, a, b, c, d⟩ := r
    exact ⟨_, l, a, b, fun w' h' s k m => ⟨e, xs, n, k, m, c.mono s, d⟩, fun w' h' s k m => ⟨e, xs, n, k, m, c.mono s, d⟩⟩
  | di l es =>
    obtain ⟨e, ob, kvs, a, b, c, d, f⟩ := r
    exact ⟨_, l, a, b, fun w' h' s k m => ⟨e, ob, kvs, k, m, c, d.mono s, f⟩, fun w' h' s k m => ⟨e, ob, kvs, k, m, c, d.mono s, f⟩⟩
  | ds l es =>
    obtain ⟨⟨e, ob, kvs, a, b, c, d, f⟩, g⟩ := r
    exact ⟨_, l, a, b, fun w' h' s k m => ⟨⟨e, ob, kvs, k, m, c, d.mono s, f⟩, g⟩, fun w' h' s k m => ⟨⟨e, ob, kvs, k, m, c, d.mono s, f⟩, g⟩⟩
  | inst => exact absurd rfl hq
inductive Lk (G : Gl) (w : Wd) (h : Heap) (σ : St) : V → Wd → Prop
  | on {i : Nat} {p : Addr × Addr} {q : O} {ob : Obj} {l : Bool} : w.φ[i]? = some p → σ.get i = some q → Coll G w h i p q ob l → Lk G w h σ (.ref i) (w.set p.1 (lkOwn true i ob))
  | off {v : V} : lockV σ v = σ → (∀ σ', unlockV σ v σ' = σ') → Lk G w h σ v w
theorem Lk.sub {v : V} (l : Lk G w h σ v w') : w.Sub w' := by
  cases l with
  | on a b c => exact sub_set c.m lkOwn_nofix
  | off => exact (Wd.Le.refl _).sub
theorem Lk.fr {v : V} (l : Lk G w h σ v w') (hm : w.m a = some x) (hx : ∀ i ob l, x ≠ lkOwn l i ob) : w'.m a = some x := by
  cases l with
  | on _ b c => exact (Wd.set_ne fun e => by rw [e, c.m] at hm; exact hx _ _ _ (Option.some.inj hm).symm).trans hm
  | off => exact hm
theorem Lk.none {v : V} (l : Lk G w h σ v w') (hm : w.m a = none) : w'.m a = none := by
  cases l with
  | on _ b c => exact (Wd.set_ne fun e => by rw [e, c.m] at hm; cases hm).trans hm
  | off => exact hm
theorem Lk.sr {v : V} (S : SR G w σ h) (l : Lk G w h σ v w') : SR G w' (lockV σ v) h := by
  cases l with
  | @on i p q ob l a b c =>
    rw [show lockV σ (.ref i) = σ.set i q.locked by unfold lockV; simp only [b]]
    exact S.relock a c.m c.at_ (c.lock _ _ (sub_set c.m lkOwn_nofix) c.at_ Wd.set_at)
  | off a _ => rw [a]; exact S
theorem Lk.unlock {v : V} (l : Lk G w h σ v w') (hw : w'.Sub w₁) (hx : ∀ a x, w'.m a = some x → (∀ z, x ≠ .fr z) → w₁.m a = some x) (S : SR G w₁ σ₁ h₁) :
    ∃ w₂, SR G w₂ (unlockV σ v σ₁) h₁ ∧ w₁.Sub w₂ ∧ (∀ a x, w₁.m a = some x → (∀ i ob l, x ≠ lkOwn l i ob) → w₂.m a = some x) ∧ w₂.φ = w₁.φ ∧ ∀ a x, w.m a = some x → w₁.m a = w'.m a → w₂.m a = some x := by
  cases l with
  | @on i p q ob l a b c =>
    have hm := hx p.1 _ Wd.set_at lkOwn_nofr
    have sb := sub_set (x := lkOwn l i ob) hm lkOwn_nofix
    have hob : h₁.get? p.1 = some ob := S.m _ _ hm
    rw [show unlockV σ (.ref i) σ₁ = σ₁.set i q by unfold unlockV; simp only [b]]
    refine ⟨w₁.set p.1 (lkOwn l i ob), S.relock (prefix_get hw.φ a) hm hob (c.back _ _ ⟨fun z o e => sb.m z o (hw.m z o ((sub_set c.m lkOwn_nofix).m z o e)), hw.φ⟩ hob Wd.set_at), sb, fun z x e hx => (Wd.set_ne fun e' => by rw [e', hm] at e; exact hx _ _ _ (Option.some.inj e).symm).trans e, rfl, fun z x e1 e2 => ?_⟩
    by_cases e' : z = p.1
    · subst e'; rw [c.m] at e1; cases e1; exact Wd.set_at
    · rw [Wd.set_ne e'] at e2 ⊢; exact e2.trans e1
  | off _ b => rw [b]; exact ⟨w₁, S, (Wd.Le.refl _).sub, fun _ _ e _ => e, rfl, fun z x e1 e2 => e2.trans e1⟩
structure Itr (G : Gl) (A : Around) (hd : Bool) (w : Wd) (tgt : Expr) (I : Addr) (fp : List Addr) (vs : List V) (T : Nat → Heap → Prop) : Prop where
  frame : ∀ i h h', T i h → (∀ b, b = I ∨ b ∈ fp → ∀ o, h.get? b = some o → h'.get? b = some o) → T i h'
  at_ : ∀ i h, T i h → ∃ o, h.get? I = some o
  item : ∀ i v (s : Shared) (Q : Option Value → Shared → Prop) (Ex : Value → Shared → Prop), vs[i]? = some v → T i s.heap →
    (∀ x h' tk, VR G w v x → T (i + 1) h' → (∀ b o, b ≠ I → s.heap.get? b = some o → h'.get? b = some o) → Q (some x) { s with heap := h', toks := tk }) → wpAny G.M A (pyNext (.ref I)) Q Ex s
  done : hd = false → ∀ (s : Shared) (Q : Option Value → Shared → Prop) (Ex : Value → Shared → Prop), T vs.length s.heap →
    (∀ h' tk, (∀ b o, b ≠ I → s.heap.get? b = some o → h'.get? b = some o) → Q none { s with heap := h', toks := tk }) → wpAny G.M A (pyNext (.ref I)) Q Ex s
  self : ∀ i (s : Shared) (Q : Value → Shared → Prop) (Ex : Value → Shared → Prop), T i s.heap → Q (.ref I) s → wpAny G.M A (pyIter (.ref I)) Q Ex s
  go : ∀ i (s : Shared) (x : Value) (Q : Unit → Shared → Prop) (Ex : Value → Shared → Prop), ((∀ y p, tgt ≠ .Name y p) → ∃ T, x = .ref T) → T i s.heap → Q () s → wpAny G.M A (letOwnedTupleGo tgt (.ref I) x) Q Ex s
noncomputable def TgtOK (v : V) : Expr → Prop
  | .Name _ _ => True
  | .Tuple _ _ _ => ∃ vs, v = .lst vs
  | _ => False
theorem go_name {A : Around} {x : Str} {p : Pos} {I : Addr} (s : Shared) (y : Value) (Q : Unit → Shared → Prop) (Ex : Value → Shared → Prop) (h : Q () s) : wpAny G.M A (letOwnedTupleGo (.Name x p) (.ref I) y) Q Ex s := wpAny_pure (a := ()) h
theorem go_plain {A : Around} {I : Addr} {v : V} {tgt : Expr} (ht : TgtOK v tgt) (hne : ∀ vs, v ≠ .lst vs) (s : Shared) (y : Value) (Q : Unit → Shared → Prop) (Ex : Value → Shared → Prop) (h : Q () s) : wpAny G.M A (letOwnedTupleGo tgt (.ref I) y) Q Ex s := by
  cases tgt with
  | Name => exact go_name s y Q Ex h
  | Tuple => obtain ⟨vs, e⟩ := ht; exact absurd e (hne vs)
  | _ => exact ht.elim
theorem walks_itr {A : Around} {hd : Bool} {I : Addr} {fp : List Addr} {m : Nat} {Pr : Nat → Value → Prop} {T : Nat → Heap → Prop} {vs : List V} {v : V} {tgt : Expr} (W : Walks G.prog G.ω A I (I :: fp) [I] m Pr T) (hm : m = vs.length) (hP : ∀ i v x, vs[i]? = some v → Pr i x → VR G w v x)
    (hat : ∀ i h, T i h → ∃ o, h.get? I = some o) (ht : TgtOK v tgt) (hne : ∀ vs, v ≠ .lst vs) : Itr G A hd w tgt I fp vs T where
  frame i h h' st k := W.frame i h h' st fun b hb o e => k b (List.mem_cons.mp hb) o e
  at_ := hat
  item i v s Q Ex hv st hQ := W.item i s Q Ex (hm ▸ (List.getElem?_eq_some_iff.mp hv).1) st fun x h' tk hx st' k => hQ x h' tk (hP i v x hv hx) st' fun b o hb e => k b o (fun q => hb (List.mem_singleton.mp q)) e
  done _ s Q Ex st hQ := W.done s Q Ex (hm ▸ st) fun h' tk k => hQ h' tk fun b o hb e => k b o (fun q => hb (List.mem_singleton.mp q)) e
  self := W.self
  go _ s x Q Ex _ _ h := go_plain ht hne s x Q Ex h
theorem strKind_inv {k : Str} {u : Value} (h : (PySem.strKind G.prog G.ω).is k u = true) : ∃ t, u = .str k t := by
  have h : Value.isStrOf k u = true := h
  cases u <;> simp [Value.isStrOf] at h
  subst h; exact ⟨_, rfl⟩
theorem intKind_inv {k : Int} {u : Value} (h : (intKind G.prog G.ω).is k u = true) : ∃ t, u = .int k t := by
  have h : Value.isInt k u = true := h
  cases u <;> simp [Value.isInt] at h
  subst h; exact ⟨_, rfl⟩
theorem itersOf_inv {hd : Bool} {v : V} {items : List V} (h : itersOf hd σ v = some items) : (v = .lst items) ∨ (hd = false ∧ itemsOf σ v = some items ∧ ∀ vs, v ≠ .lst vs) := by
  unfold itersOf at h
  split at h
  · obtain ⟨vs, rfl, h⟩ := withLst_inv h; cases h; exact .inl rfl
  · rename_i q
    cases v with
    | lst vs => cases h; exact .inl rfl
    | _ => exact .inr ⟨Bool.eq_false_iff.mpr q, h, fun _ e => nomatch e⟩
noncomputable def MkIter (G : Gl) (A : Around) (hd : Bool) (w : Wd) (σ : St) (s : Shared) (tgt : Expr) (v : V) (items : List V) (Q : Value → Shared → Prop) : Prop :=
  ∀ ob fp T w', Lk G w s.heap σ v w' → Itr G A hd w tgt s.heap.objs.size fp items T → T 0 (s.heap.push ob) → (∀ b ∈ fp, ∃ o q, w'.m b = some o ∧ o.ex = some q) → ob.isFreed = false → Q (.ref s.heap.objs.size) { s with heap := s.heap.push ob }
theorem iter_list {A : Around} {hd : Bool} {v : V} {items : List V} {tgt : Expr} {Ex : Value → Shared → Prop} {Q : Value → Shared → Prop} {l : Addr} {xs : Array Value} (hA : hd = false → A.handled = none) (ht : TgtOK v tgt) (hl : s.heap.IsList l xs) (hvs : VRs G w items xs.toList)
    (lk : Lk G w s.heap σ v w') (hkept : ∃ o q, w'.m l = some o ∧ o.ex = some q) (h : MkIter G A hd w σ s tgt v items Q) : wpAny G.M A (pyIter (.ref l)) Q Ex s := by
  have hlt : l < s.heap.objs.size := let ⟨_, e, _⟩ := hl; Heap.lt_size e
  refine wpAny_pyIter_list hl (h _ [l] (fun i h => h.IsListIter s.heap.objs.size l i ∧ h.IsList l xs) w' lk ⟨fun i h h' st k => ⟨st.1.at fun o e => k _ (.inl rfl) o e, st.2.at fun o e => k l (.inr (List.mem_singleton.mpr rfl)) o e⟩, fun i h st => let ⟨o, e, _⟩ := st.1; ⟨o, e⟩, fun i u s' Q' Ex' hu st hQ => ?_, fun hd0 s' Q' Ex' st hQ => wpAny_pyNext_list_end (hA hd0) st.1 st.2 (Array.getElem?_eq_none (Nat.le_of_eq hvs.size.symm)) fun h' he' => hQ h' s'.toks fun b o hb e => he' b o hb e, fun _ _ _ _ st hQ => wpAny_pyIter_listiter st.1 hQ, fun i s' x' Q' Ex' hx' st hQ => ?_⟩ ⟨⟨_, Heap.get?_push_size _ rfl, rfl, rfl⟩, IsList_keep (push_keeps _ _) hl⟩ (fun b hb => List.mem_singleton.mp hb ▸ hkept) rfl)
  · obtain ⟨y, hy, hvy⟩ := VRs.getArr hvs hu
    exact wpAny_pyNext_list_item st.1 st.2 hy fun h' hit' hs' => hQ y h' s'.toks hvy ⟨hit', st.2.extBut hs'.extBut (Nat.ne_of_lt hlt)⟩ fun b o hb e => hs'.extBut b o hb e
  · cases tgt with
    | Name y p => exact go_name s' x' Q' Ex' hQ
    | Tuple elts k p => obtain ⟨T, rfl⟩ := hx' fun _ _ e => nomatch e; exact wpAny_letOwnedTupleGo_listiter st.1 hQ
    | _ => exact ht.elim
theorem iter_dict {A : Around} {κ : Type} [DecidableEq κ] {knd : PySem.KeyKind G.prog G.ω κ} {l : Bool} {es : List (κ × V)} {tgt : Expr} {Ex : Value → Shared → Prop} {Q : Value → Shared → Prop} {f : κ × V → V} (hA : A.handled = none) (ht : TgtOK (.ref i) tgt) (r : DRel G w s.heap i p knd l es)
    (hf : ∀ kv x, kv ∈ es → knd.is kv.1 x = true → VR G w (f kv) x) (lk : Lk G w s.heap σ (.ref i) w') (hkept : ∃ o q, w'.m p.1 = some o ∧ o.ex = some q) (h : MkIter G A false w σ s tgt (.ref i) (es.map f) Q) : wpAny G.M A (pyIter (.ref p.1)) Q Ex s := by
  obtain ⟨e2, ob, kvs, r1, _, r2, r3, r4, r5⟩ := r
  obtain ⟨ep, hat⟩ := (Heap.dictOf_iff.mpr ⟨ob, r1, r2⟩ : s.heap.DictOf knd p.1 kvs).dictAt
  refine wpAny_pyIter_dict (ne_beq r5) hat (h _ [p.1] _ _ lk (walks_itr (Walks.dictKeys (knd := knd) hA s.heap.objs.size p.1 (Nat.ne_of_lt hat.lt_size) kvs ep) (by rw [List.length_map]; exact (All2.length r3).symm) (fun j u y hu hy => ?_) (fun i h st => let ⟨o, e, _⟩ := st.1; ⟨o, e⟩) ht fun _ e => nomatch e) ⟨⟨_, Heap.get?_push_size _ rfl, rfl, rfl⟩, hat.push _⟩ (fun b hb => List.mem_singleton.mp hb ▸ hkept) rfl)
  obtain ⟨k, z, h1, h2⟩ := hy
  rw [List.getElem?_map, Option.map_eq_some_iff] at hu
  obtain ⟨kv, h3, rfl⟩ := hu
  obtain ⟨kz, h4, h5, _⟩ := All2.get r3 h3
  rw [h1] at h4; cases h4
  exact hf kv y (List.mem_of_getElem? h3) (h5 ▸ h2)
theorem Coll.kept {l : Bool} (c : Coll G w h i p q ob l) : ∃ o z, (w.set p.1 (lkOwn true i ob)).m p.1 = some o ∧ o.ex = some z := ⟨_, ob, Wd.set_at, rfl⟩
theorem iter_sound {A : Around} {hd : Bool} {v : V} {x : Value} {items : List V} {tgt : Expr} {Ex : Value → Shared → Prop} {Q : Value → Shared → Prop} (S : SR G w σ s.heap) (hA : hd = false → A.handled = none) (hv : VR G w v x) (hi : itersOf hd σ v = some items) (ht : TgtOK v tgt)
    (h : MkIter G A hd w σ s tgt v items Q) : wpAny G.M A (pyIter x) Q Ex s := by
  rcases itersOf_inv hi with rfl | ⟨rfl, hi, hne⟩
  · cases hv with
    | lst e1 e2 e3 e4 e5 => exact iter_list hA ht ⟨_, S.at e1, e2, _, e3⟩ e4 (.off rfl fun _ => rfl) ⟨_, _, e1, rfl⟩ h
  · have hA := hA rfl
    cases v with
    | lst vs => exact absurd rfl (hne vs)
    | tup vs =>
      cases hi
      cases hv with
      | tup e1 e2 e3 e4 e5 =>
        have hT : s.heap.IsTuple _ _ := ⟨_, S.at e1, e2, _, e3⟩
        refine wpAny_pyIter_tuple hT (h _ [_] _ w (.off rfl fun _ => rfl) (walks_itr (Walks.tuple hA s.heap.objs.size _ (Nat.ne_of_lt (Heap.lt_size (S.at e1))) _) (VRs.size e4).symm (fun i u y hu hy => ?_) (fun i h st => let ⟨o, e, _⟩ := st.1; ⟨o, e⟩) ht hne) ⟨⟨_, Heap.get?_push_size _ rfl, rfl, rfl⟩, let ⟨o, e, r⟩ := hT; ⟨o, Heap.get?_push_of_some _ e, r⟩⟩ (fun b hb => List.mem_singleton.mp hb ▸ ⟨_, _, e1, rfl⟩) rfl)
        obtain ⟨z, hz, hvz⟩ := VRs.getArr e4 hu
        rw [hz] at hy; cases hy; exact hvz
    | rng a b k =>
      obtain ⟨hc, hi⟩ := if_inv hi
      cases hi
      cases hv with
      | rng e1 e2 =>
        obtain ⟨t, u, y, rfl⟩ := e2
        obtain ⟨hsm, hz, hlim⟩ := hc
        refine wpAny_pyIter_range (S.at e1) hsm (h _ [] _ w (.off rfl fun _ => rfl) (walks_itr (Walks.range (prog := G.prog) (w := G.ω) (A := A) hA s.heap.objs.size a k ((b - a + k - 1) / k).toNat) (by unfold rngList; rw [List.length_map, List.length_range]) (fun i u y hu hy => ?_) (fun i h st => ⟨_, st⟩) ht hne) ?_ (fun b hb => nomatch hb) rfl)
        · obtain ⟨t', rfl⟩ := hy
          unfold rngList at hu
          rw [List.getElem?_map, Option.map_eq_some_iff] at hu
          obtain ⟨j, hj, rfl⟩ := hu
          rw [List.getElem?_range (by have := (List.getElem?_eq_some_iff.mp hj).1; rw [List.length_range] at this; exact this)] at hj
          cases hj
          rw [show a + k * (i : Int) = a + i * k by rw [Int.mul_comm]]
          exact .int _ _
        · show IsRangeIter _ _ _ _ _
          rw [hz]
          simpa using Heap.get?_push_size _ rfl
    | ref j =>
      obtain ⟨p, hp, rfl⟩ := hv.refv
      obtain ⟨o, hg, hi⟩ := onO_inv hi
      have rr := S.ref hp hg
      cases o with
      | list l vs =>
        cases hi
        obtain ⟨ob, l', c⟩ := rr.coll (fun e => by cases e)
        obtain ⟨_, xs, k, r1, _, r2, _⟩ := rr
        exact iter_list (fun _ => hA) ht ⟨_, r1, rfl, _, rfl⟩ r2 (.on hp hg c) c.kept h
      | di l es =>
        cases hi
        obtain ⟨ob, l', c⟩ := rr.coll (fun e => by cases e)
        exact iter_dict hA ht rr (fun kv x _ q => by obtain ⟨t, rfl⟩ := intKind_inv q; exact .int _ _) (.on hp hg c) c.kept h
      | ds l es =>
        cases hi
        obtain ⟨ob, l', c⟩ := rr.coll (fun e => by cases e)
        exact iter_dict hA ht rr.1 (fun kv x hm q => by obtain ⟨t, rfl⟩ := strKind_inv q; exact .str _ _ (rr.2 kv hm)) (.on hp hg c) c.kept h
      | inst => exact no hi
    | _ => exact no hi
end
end Lw
namespace Lw
open PySem PySem.W PySem.Calls PyProof.Rows
theorem fix_nofr {o : Obj} : ∀ z, Own.fix o ≠ .fr z := fun _ q => nomatch q
theorem fix_noown {o : Obj} : ∀ z, Own.fix o ≠ .own z := fun _ q => nomatch q
theorem fr_noown {o : Obj} : ∀ z, Own.fr o ≠ .own z := fun _ q => nomatch q
theorem own_nofix {o : Obj} : ∀ z, Own.own o ≠ .fix z := fun _ q => nomatch q
theorem fr_nolk {o : Obj} : ∀ i ob l, Own.fr o ≠ lkOwn l i ob := fun i ob l e => by cases l <;> cases e
noncomputable def owns (env : Env) (a : Addr) : Prop := a = env.locals ∨ ∃ x, env.cells.lookup x = some a
noncomputable def Wd.hide (w : Wd) (env : Env) : Wd := { w with m := fun a => open Classical in if owns env a then none else w.m a }
noncomputable def In (I : Addr) (c : Nat) (a : Addr) : Prop := I ≤ a ∧ a < I + c
noncomputable def Wd.ownN (w : Wd) (I : Addr) (c : Nat) (p : Addr → Obj) : Wd := { w with m := fun a => open Classical in if In I c a then some (.own (p a)) else w.m a }
noncomputable def Wd.delN (w : Wd) (I : Addr) (c : Nat) : Wd := { w with m := fun a => open Classical in if In I c a then none else w.m a }
section
variable {G : Gl} {n : Nat} {cx : Cxt} {w w' w₀ w₁ : Wd} {s s' s₀ : Shared} {σ σ' σ₁ : St} {ρ ρ' : Rho} {fl : Fl} {env : Env} {I a : Addr} {c : Nat} {h h' : Heap} {p : Addr → Obj} {pos : Pos}
structure OwnAt (w₀ w : Wd) (env : Env) : Prop where
  out : ∀ a, owns env a → w₀.m a = none
  fr : ∀ a, owns env a → ∃ o, w.m a = some (.fr o)
theorem PtS.own (Y : PtS G n cx) : OwnAt Y.w₀ Y.w Y.env :=
  ⟨fun a q => q.elim (fun e => e ▸ Y.M.out) fun ⟨x, e⟩ => Y.M.cout x a e, fun a q => q.elim (fun e => let ⟨o, _, h, _⟩ := Y.F.ns; ⟨o, e ▸ h⟩) fun ⟨x, e⟩ => let ⟨o, _, h, _⟩ := Y.M.cells x a e; ⟨o, h⟩⟩
theorem Wd.hide_own {a : Addr} (q : owns env a) : (w.hide env).m a = none := if_pos q
theorem Wd.hide_ne {a : Addr} (q : ¬ owns env a) : (w.hide env).m a = w.m a := if_neg q
theorem Wd.hide_of {a : Addr} {x : Own} (O : OwnAt w₀ w env) (e : w.m a = some x) (hx : ∀ z, x ≠ .fr z) : (w.hide env).m a = some x :=
  (Wd.hide_ne fun q => by obtain ⟨o, h⟩ := O.fr a q; rw [h] at e; cases e; exact hx o rfl).trans e
theorem Wd.hide_le : (w.hide env).Le w := ⟨fun a x e => by
  by_cases q : owns env a
  · rw [Wd.hide_own q] at e; cases e
  · rw [Wd.hide_ne q] at e; exact e, List.prefix_refl _⟩
theorem ownN_at (q : In I c a) : (w.ownN I c p).m a = some (.own (p a)) := if_pos q
theorem ownN_ne (q : ¬ In I c a) : (w.ownN I c p).m a = w.m a := if_neg q
theorem delN_at (q : In I c a) : (w.delN I c).m a = none := if_pos q
theorem delN_ne (q : ¬ In I c a) : (w.delN I c).m a = w.m a := if_neg q
theorem le_ownN (q : ∀ a, In I c a → w.m a = none) : w.Le (w.ownN I c p) := ⟨fun a x e => (ownN_ne fun z => by rw [q a z] at e; cases e).trans e, List.prefix_refl _⟩
theorem sub_ownN (q : ∀ a, In I c a → ∃ o, w.m a = some (.own o)) : w.Sub (w.ownN I c p) := ⟨fun a x e => (ownN_ne fun z => by obtain ⟨o, k⟩ := q a z; rw [k] at e; cases e).trans e, List.prefix_refl _⟩
theorem SR.ownN (S : SR G w σ h) (sub : w.Sub (w.ownN I c p)) (hu : ∀ a, In I c a → w.Unheld a) (k : ∀ b y, ¬ In I c b → h.get? b = some y → h'.get? b = some y) (hx : ∀ a, In I c a → h'.get? a = some (p a)) : SR G (w.ownN I c p) σ h' := by
  refine ⟨fun b o e => ?_, S.n, fun i o e => ?_⟩
  · by_cases q : In I c b
    · rw [ownN_at q] at e; cases e; exact hx b q
    · rw [ownN_ne q] at e; exact (S.m b o e).keep fun _ z => k _ _ q z
  · obtain ⟨pp, z, r⟩ := S.obj i o e
    have n1 : ¬ In I c pp.1 := fun q => (r.apart (hu _ q)).1 rfl
    have n2 : ¬ In I c pp.2 := fun q => (r.apart (hu _ q)).2 rfl
    exact ⟨pp, z, r.keep sub (ownN_ne n1) (ownN_ne n2) fun b y hb => k b y (by rcases hb with rfl | rfl; exact n1; exact n2)⟩
theorem SR.delN (S : SR G w σ h) (hs : ∀ a, In I c a → ∃ o, w.m a = some (.own o)) (k : ∀ b y, ¬ In I c b → h.get? b = some y → h'.get? b = some y) : SR G (w.delN I c) σ h' := by
  have sub : w.Sub (w.delN I c) := ⟨fun b z e => (delN_ne fun q => by obtain ⟨o, k⟩ := hs b q; rw [k] at e; cases e).trans e, List.prefix_refl _⟩
  refine ⟨fun b o e => ?_, S.n, fun i o e => ?_⟩
  · by_cases q : In I c b
    · rw [delN_at q] at e; cases e
    · rw [delN_ne q] at e; exact (S.m b o e).keep fun _ z => k _ _ q z
  · obtain ⟨pp, z, r⟩ := S.obj i o e
    have n1 : ¬ In I c pp.1 := fun q => (r.apart (let ⟨_, k⟩ := hs _ q; Wd.unheld_own k)).1 rfl
    have n2 : ¬ In I c pp.2 := fun q => (r.apart (let ⟨_, k⟩ := hs _ q; Wd.unheld_own k)).2 rfl
    exact ⟨pp, z, r.keep sub (delN_ne n1) (delN_ne n2) fun b y hb => k b y (by rcases hb with rfl | rfl; exact n1; exact n2)⟩
structure Lp (Y : PtS G n cx) (itv : V) (w' : Wd) (I : Addr) (c : Nat) : Prop where
  l : Lk G Y.w Y.s.heap Y.σ itv w'
  hI : ∀ a, In I c a → Y.s.heap.get? a = none
noncomputable def Lp.W {Y : PtS G n cx} {itv : V} {w' : Wd} {I : Addr} {c : Nat} (_ : Lp Y itv w' I c) (p : Addr → Obj) : Wd := (w'.hide Y.env).ownN I c p
section
variable {Y : PtS G n cx} {itv : V} (P : Lp Y itv w' I c)
include P
theorem Lp.non (q : In I c a) : w'.m a = none := P.l.none (Y.S.fresh (P.hI a q))
theorem Lp.own : OwnAt Y.w₀ w' Y.env := ⟨Y.own.out, fun a q => let ⟨o, e⟩ := Y.own.fr a q; ⟨o, P.l.fr e fr_nolk⟩⟩
theorem Lp.hnone (q : In I c a) : (w'.hide Y.env).m a = none := (Wd.hide_ne fun z => by obtain ⟨o, h⟩ := P.own.fr a z; rw [P.non q] at h; cases h).trans (P.non q)
theorem Lp.le (p : Addr → Obj) : (w'.hide Y.env).Le (P.W p) := le_ownN fun _ q => P.hnone q
theorem Lp.base (p : Addr → Obj) : Base G (P.W p) := Y.B.mono ⟨fun a o e => (P.le p).m _ _ (Wd.hide_of P.own (P.l.sub.m _ _ (Y.le.sub.m _ _ e)) fix_nofr), Y.le.φ.trans P.l.sub.φ⟩
theorem Lp.aok (p : Addr → Obj) : AOK Y.A n Y.hd (P.W p) Y.envs := Y.hA.mono fun a o e => (P.le p).m _ _ ((Wd.hide_ne fun q => by rw [Y.own.out a q] at e; cases e).trans (P.l.fr (Y.le.m _ _ e) fr_nolk))
theorem Lp.out (p : Addr → Obj) {a : Addr} (q : owns Y.env a) : (P.W p).m a = Option.none := (ownN_ne fun e => by obtain ⟨o, h⟩ := P.own.fr a q; rw [P.non e] at h; cases h).trans (Wd.hide_own q)
theorem Lp.at_ (p : Addr → Obj) (q : In I c a) : (P.W p).m a = some (.own (p a)) := ownN_at q
theorem Lp.stand {p : Addr → Obj} {w₁ : Wd} {a : Addr} {x : Own} (le : (P.W p).Le w₁) (e : w'.m a = some x) (hx : ∀ z, x ≠ .fr z) : w₁.m a = some x := le.m _ _ ((P.le p).m _ _ (Wd.hide_of P.own e hx))
theorem Lp.sub {p : Addr → Obj} {w₁ : Wd} (le : (P.W p).Le w₁) : w'.Sub w₁ := ⟨fun _ _ e => P.stand le e fix_nofr, le.φ⟩
theorem Lp.in_ {p : Addr → Obj} {w₁ : Wd} (le : (w'.hide Y.env).Le w₁) (e : ∀ a, In I c a → w₁.m a = some (.own (p a))) : (P.W p).Le w₁ := ⟨fun a x e' => by
  by_cases q : In I c a
  · rw [P.at_ p q] at e'; cases e'; exact e a q
  · exact le.m _ _ ((ownN_ne q).symm.trans e'), le.φ⟩
end
theorem FR.swap {vis : List (Str × Nat)} (F : FR G w env vis ρ) (sb : w.Sub w') (fr : ∀ a o, owns env a → w.m a = some (.fr o) → w'.m a = some (.fr o)) : FR G w' env vis ρ :=
  ⟨F.kind, F.glob, F.bi, let ⟨o, m, a, b, d⟩ := F.ns; ⟨o, m, fr _ _ (.inl rfl) a, b, fun x k v e1 e2 e3 => let ⟨y, p, q⟩ := d x k v e1 e2 e3; ⟨y, p, q.mono sb⟩⟩, fun x k v e1 e2 e3 => let ⟨a, o, y, p, q, r, z⟩ := F.cells x k v e1 e2 e3; ⟨a, o, y, p, fr _ _ (.inr ⟨x, p⟩) q, r, z.mono sb⟩⟩
theorem Frm.cells' {w₂ : Wd} (M : Frm w₂ w env) (fr : ∀ a o, owns env a → w.m a = some (.fr o) → w'.m a = some (.fr o)) : ∀ x a, env.cells.lookup x = some a → ∃ o v, w'.m a = some (.fr o) ∧ o.data = .cell v := fun x a e => let ⟨o, v, p, q⟩ := M.cells x a e; ⟨o, v, fr _ _ (.inr ⟨x, e⟩) p, q⟩
theorem Lk.agree {h : Heap} {v : V} {a : Addr} {x : Own} (l : Lk G w h σ v w') (e : w.m a = some x) : ∃ y, w'.m a = some y := by
  cases l with
  | @on i p _ _ _ _ _ c =>
    by_cases z : a = p.1
    · subst z; exact ⟨_, Wd.set_at⟩
    · exact ⟨x, (Wd.set_ne z).trans e⟩
  | off => exact ⟨x, e⟩
theorem Lp.leave {Y : PtS G n cx} {itv : V} (P : Lp Y itv w' I c) {w₁ : Wd} {p : Addr → Obj} {h₁ : Heap} {ρ₁ : Rho} {s₁ : Shared} (le : (P.W p).Le w₁) (S : SR G w₁ σ₁ h₁) (F : FR G w₁ Y.env cx.vis ρ₁) (M : Frm (P.W p) w₁ Y.env) (hk : ∀ b x, ¬ In I c b → h₁.get? b = some x → s₁.heap.get? b = some x) (hs : Same s₀ s₁) :
    ∃ w₂, SPost G cx.vis Y.w₀ s₀ Y.env w₂ ρ₁ (unlockV Y.σ itv σ₁) s₁ ∧ w₁.Sub w₂ := by
  have hmI : ∀ a, In I c a → w₁.m a = some (.own (p a)) := fun a q => le.m _ _ (P.at_ p q)
  have d1 : ∀ a x, w₁.m a = some x → (∀ o, x ≠ .own o) → (w₁.delN I c).m a = some x := fun a x e hx => (delN_ne fun q => by rw [hmI a q] at e; cases e; exact hx _ rfl).trans e
  have d2 : ∀ a x, w'.m a = some x → (∀ z, x ≠ .fr z) → (w₁.delN I c).m a = some x := fun a x e hx => (delN_ne fun q => by rw [P.non q] at e; cases e).trans (P.stand le e hx)
  obtain ⟨w₂, S3, sb, frs, hφ, hag⟩ := P.l.unlock ⟨fun a o e => d2 a _ e fix_nofr, le.φ⟩ d2 (S.delN (fun a q => ⟨_, hmI a q⟩) hk)
  have sb2 : w₁.Sub w₂ := ⟨fun a o e => sb.m _ _ (d1 a _ e fix_noown), sb.φ⟩
  have fr2 : ∀ a o, w₁.m a = some (.fr o) → w₂.m a = some (.fr o) := fun a o e => frs a _ (d1 a _ e fr_noown) fr_nolk
  refine ⟨w₂, ⟨hs, ⟨fun a x e => hag a x (Y.le.m _ _ e) ?_, hφ ▸ (Y.le.φ.trans P.l.sub.φ).trans le.φ⟩, S3, F.swap sb2 (fun a o _ => fr2 a o), Y.M.frm, Y.M.out, Y.M.cout, M.cells' (fun a o _ => fr2 a o), Y.M.inj⟩, sb2⟩
  obtain ⟨y, hy⟩ := P.l.agree (Y.le.m _ _ e)
  rw [hy]
  exact (delN_ne fun q => by rw [P.non q] at hy; cases hy).trans (le.m _ _ ((P.le p).m _ _ ((Wd.hide_ne fun q => by rw [Y.own.out a q] at e; cases e).trans hy)))
theorem in1 (h : In I 1 a) : a = I := Nat.le_antisymm (Nat.le_of_lt_succ h.2) h.1
theorem in1' : In I 1 I := ⟨Nat.le_refl _, Nat.lt_succ_self _⟩
structure Itz (G : Gl) (A : Around) (hd : Bool) (w : Wd) (tgt : Expr) (I : Addr) (c : Nat) (J : Addr) (fp : List Addr) (vs : List V) (T : Nat → Heap → Prop) (IR : Wd → Heap → V → Value → Prop) : Prop where
  frame : ∀ i h h', T i h → (∀ b, In I c b ∨ b ∈ fp → ∀ o, h.get? b = some o → h'.get? b = some o) → T i h'
  at_ : ∀ i h, T i h → ∃ p : Addr → Obj, ∀ a, In I c a → h.get? a = some (p a)
  mono : ∀ w₁ w₂ h v x, IR w₁ h v x → w₁.Sub w₂ → IR w₂ h v x
  turn : ∀ i v (s : Shared) (N : Shared → Prop) (C : Value → Shared → Prop) (Ex Ex' : Value → Shared → Prop), vs[i]? = some v → (∀ x h, IR w h v x → (∀ y p, tgt ≠ .Name y p) → ∃ t, x = .ref t) → T i s.heap →
    (∀ x h' tk, IR w h' v x → T (i + 1) h' → (∀ b o, ¬ In I c b → s.heap.get? b = some o → h'.get? b = some o) → C x { s with heap := h', toks := tk }) →
    wpAny G.M A (pyNext (.ref J)) (fun r s₁ => match r with | none => N s₁ | some x => wpAny G.M A (letOwnedTupleGo tgt (.ref J) x) (fun _ s₂ => C x s₂) Ex' s₁) Ex s
  done : hd = false → ∀ (s : Shared) (Q : Option Value → Shared → Prop) (Ex : Value → Shared → Prop), T vs.length s.heap →
    (∀ h' tk, (∀ b o, ¬ In I c b → s.heap.get? b = some o → h'.get? b = some o) → Q none { s with heap := h', toks := tk }) → wpAny G.M A (pyNext (.ref J)) Q Ex s
theorem Itz.of {A : Around} {hd : Bool} {tgt : Expr} {fp : List Addr} {vs : List V} {T : Nat → Heap → Prop} (it : Itr G A hd w tgt I fp vs T) : Itz G A hd w tgt I 1 I fp vs T fun w _ v x => VR G w v x where
  frame := fun i h h' t k => it.frame i h h' t fun b hb => k b (by rcases hb with rfl | hb; exact .inl in1'; exact .inr hb)
  at_ := fun i h t => (it.at_ i h t).imp' (fun o _ => o) fun o e a q => (in1 q).symm ▸ e
  mono := fun _ _ _ _ _ r q => r.mono q
  turn := fun i v s N C Ex Ex' hv hg t k => it.item i v s _ _ hv t fun x h' tk hx t' kp => it.go (i + 1) { s with heap := h', toks := tk } x _ _ (hg x h' hx) t' (k x h' tk hx t' fun b o hb => kp b o fun e => hb (e ▸ in1'))
  done := fun h s Q Ex t k => it.done h s Q Ex t fun h' tk kp => k h' tk fun b o hb => kp b o fun e => hb (e ▸ in1')
theorem Lp.stays {Y : PtS G n cx} {itv : V} (P : Lp Y itv w' I c) {A : Around} {hd : Bool} {tgt : Expr} {J : Addr} {fp : List Addr} {items : List V} {T : Nat → Heap → Prop} {IR : Wd → Heap → V → Value → Prop} {i : Nat} {p : Addr → Obj} {w₁ w₂ : Wd} {σ₁ σ₂ : St} {h₁ h₂ : Heap} (it : Itz G A hd Y.w tgt I c J fp items T IR) (hkept : ∀ b ∈ fp, ∃ o q, w'.m b = some o ∧ o.ex = some q)
    (l1 : (P.W p).Le w₁) (l2 : (P.W p).Le w₂) (S1 : SR G w₁ σ₁ h₁) (S2 : SR G w₂ σ₂ h₂) (st : T i h₁) : T i h₂ := by
  refine it.frame i h₁ h₂ st fun b hb y e => ?_
  rcases hb with hb | hb
  · rw [S1.m _ _ (l1.m _ _ (P.at_ p hb))] at e; cases e
    exact S2.m _ _ (l2.m _ _ (P.at_ p hb))
  · obtain ⟨o, q, e1, e2⟩ := hkept b hb
    rw [(S1.m _ _ (P.stand l1 e1 (ex_nofr e2))).exact e2] at e; cases e
    exact (S2.m _ _ (P.stand l2 e1 (ex_nofr e2))).exact e2
structure LInv {Y : PtS G n cx} {itv : V} (P : Lp Y itv w' I c) (s₀ : Shared) (T : Nat → Heap → Prop) (f : V → Rho → St → RS) (items : List V) (res : RS) (i : Nat) (s₁ : Shared) (w₁ : Wd) (p : Addr → Obj) (ρ₁ : Rho) (σ₁ : St) : Prop where
  hi : i ≤ items.length
  hs : Same s₀ s₁
  le : (P.W p).Le w₁
  S : SR G w₁ σ₁ s₁.heap
  F : FR G w₁ Y.env cx.vis ρ₁
  M : Frm (P.W p) w₁ Y.env
  st : T i s₁.heap
  ev : loop f (items.drop i) ρ₁ σ₁ = res
theorem LInv.sub {Y : PtS G n cx} {itv : V} {P : Lp Y itv w' I c} {T : Nat → Heap → Prop} {f : V → Rho → St → RS} {items : List V} {res : RS} {i : Nat} {s₁ : Shared} {w₁ : Wd} {p p2 : Addr → Obj} {ρ₁ : Rho} {σ₁ : St} (L : LInv P s₀ T f items res i s₁ w₁ p ρ₁ σ₁) : w₁.Sub (w₁.ownN I c p2) := sub_ownN fun a q => ⟨_, L.le.m _ _ (P.at_ p q)⟩
noncomputable def LInv.pt {Y : PtS G n cx} {itv : V} {P : Lp Y itv w' I c} {T : Nat → Heap → Prop} {f : V → Rho → St → RS} {items : List V} {res : RS} {i : Nat} {s₁ : Shared} {w₁ : Wd} {p p2 : Addr → Obj} {ρ₁ : Rho} {σ₁ : St} {h₂ : Heap} {tk : Nat} (L : LInv P s₀ T f items res i s₁ w₁ p ρ₁ σ₁)
    (hp : ∀ a, In I c a → h₂.get? a = some (p2 a)) (k : ∀ b o, ¬ In I c b → s₁.heap.get? b = some o → h₂.get? b = some o) : PtS G n cx :=
  have hmI : ∀ a, In I c a → w₁.m a = some (.own (p a)) := fun a q => L.le.m _ _ (P.at_ p q)
  have fr : ∀ a o, w₁.m a = some (.fr o) → (w₁.ownN I c p2).m a = some (.fr o) := fun a o e => (ownN_ne fun q => by rw [hmI a q] at e; cases e).trans e
  ⟨Y.hd, Y.dr, P.W p2, w₁.ownN I c p2, ρ₁, σ₁, Y.env, Y.envs, Y.A, { s₁ with heap := h₂, toks := tk }, P.base p2, P.in_ ⟨fun a x e => (ownN_ne fun q => by rw [P.hnone q] at e; cases e).trans (L.le.m _ _ ((P.le p).m _ _ e)), L.le.φ⟩ (fun a q => ownN_at q), L.S.ownN L.sub (fun a q => Wd.unheld_own (hmI a q)) k hp,
    L.F.swap L.sub (fun a o _ => fr a o), ⟨Y.M.frm, P.out p2 (.inl rfl), fun x a e => P.out p2 (.inr ⟨x, e⟩), L.M.cells' (fun a o _ => fr a o), Y.M.inj⟩, Y.hn, P.aok p2, Y.fr⟩
theorem loopEnd_next {hd : Bool} {v : V} {ρ₁ : Rho} (h : loopEnd hd σ v (some (.next, ρ₁, σ₁)) = some (fl, ρ', σ')) : hd = false ∧ fl = .next ∧ ρ' = ρ₁ ∧ σ' = unlockV σ v σ₁ := by
  cases hd with
  | false => cases h; exact ⟨rfl, rfl, rfl, rfl⟩
  | true => exact no h
inductive LSt {Y : PtS G n cx} {itv : V} (P : Lp Y itv w' I c) (s₀ : Shared) (T : Nat → Heap → Prop) (f : V → Rho → St → RS) (items : List V) (res : RS) : Nat → Shared → Prop
  | mk {s₁ : Shared} (i : Nat) (w₁ : Wd) (p : Addr → Obj) (ρ₁ : Rho) (σ₁ : St) (L : LInv P s₀ T f items res i s₁ w₁ p ρ₁ σ₁) : LSt P s₀ T f items res (items.length + 1 - i) s₁
theorem loop_sound {tgt : Expr} {bs : List Stmt} {b : List S} {items : List V} {fp : List Addr} {T : Nat → Heap → Prop} {IR : Wd → Heap → V → Value → Prop} {f : V → Rho → St → RS} {asg : V → Rho → Option Rho} {itv : V} {h0 : Heap} {J : Addr} {R : Result → Shared → Prop} (Y : PtS G n cx) (hs₀ : Same s₀ Y.s)
    (hf : ∀ v ρ σ r, f v ρ σ = some r → ∃ ρ₁, asg v ρ = some ρ₁ ∧ execs G.P (run G.P n) Y.hd Y.dr b ρ₁ σ = some r)
    (htgt : ∀ (Z : PtS G n cx) (v : V) (x : Value) (ρ₁ : Rho) (Ex : Value → Shared → Prop), Z.hd = Y.hd → asg v Z.ρ = some ρ₁ → IR Z.w Z.s.heap v x → wpAny G.M Z.A (assign tgt Z.env x) (fun _ s' => ∃ w', SPost G cx.vis Z.w₀ Z.s Z.env w' ρ₁ Z.σ s') Ex Z.s)
    (hgo : ∀ (w : Wd) (h : Heap) (v : V) (x : Value) (ρ ρ₁ : Rho), asg v ρ = some ρ₁ → IR w h v x → (∀ y p, tgt ≠ .Name y p) → ∃ T, x = .ref T)
    (hb : SimSs G n cx b bs) (P : Lp Y itv w' I c) (it : Itz G Y.A Y.hd Y.w tgt I c J fp items T IR) (hst : T 0 h0) (hk0 : ∀ b o, Y.s.heap.get? b = some o → h0.get? b = some o) (hkept : ∀ b ∈ fp, ∃ o q, w'.m b = some o ∧ o.ex = some q)
    (hev : loopEnd Y.hd Y.σ itv (loop f items Y.ρ (lockV Y.σ itv)) = some (fl, ρ', σ'))
    (hR : ∀ fw s', QS G cx.vis Y.w₀ s₀ Y.env fl ρ' σ' fw s' → R (.ok fw) s') :
    codeAny G.M Y.A (.forLoop tgt (.ref J) bs [] Y.env) R { Y.s with heap := h0 } := by
  obtain ⟨q0, hq0⟩ := it.at_ _ _ hst
  have lo : w'.Le (w'.ownN I c q0) := le_ownN fun _ q => P.non q
  have fr : ∀ a o, Y.w.m a = some (.fr o) → (w'.ownN I c q0).m a = some (.fr o) := fun a o e => lo.m _ _ (P.l.fr e fr_nolk)
  have start : LInv P s₀ T f items (loop f items Y.ρ (lockV Y.σ itv)) 0 { Y.s with heap := h0 } (w'.ownN I c q0) q0 Y.ρ (lockV Y.σ itv) :=
    ⟨Nat.zero_le _, hs₀.trans (.of _ _ Y.s.toks), P.in_ (Wd.hide_le.trans lo) fun _ q => ownN_at q, (P.l.sr Y.S).ownN lo.sub (fun _ q => Wd.unheld_none (P.non q)) (fun b o _ e => hk0 b o e) hq0, Y.F.swap ⟨fun a o e => lo.m _ _ (P.l.sub.m _ _ e), P.l.sub.φ⟩ (fun a o _ => fr a o), ⟨Y.M.frm, P.out q0 (.inl rfl), fun x a e => P.out q0 (.inr ⟨x, e⟩), Y.M.cells' (fun a o _ => fr a o), Y.M.inj⟩, hst, rfl⟩
  refine codeAny_forLoop_any (LSt P s₀ T f items (loop f items Y.ρ (lockV Y.σ itv))) (fun m s₁ h => ?_) (items.length + 1) (.mk 0 _ q0 _ _ start)
  generalize loop f items Y.ρ (lockV Y.σ itv) = res at hev h
  cases h with
  | mk i w₁ p ρ₁ σ₁ L =>
  have ev := L.ev
  cases hv : items[i]? with
  | none =>
    have hie : i = items.length := Nat.le_antisymm L.hi (List.getElem?_eq_none_iff.mp hv)
    rw [hie, List.drop_length] at ev
    rw [← ev] at hev
    obtain ⟨hd0, rfl, rfl, rfl⟩ := loopEnd_next hev
    exact it.done hd0 s₁ _ _ (hie ▸ L.st) fun h₂ tk k => wpAny_execs_nil (hR _ _ ⟨rfl, let ⟨w₂, q, _⟩ := P.leave (s₁ := { s₁ with heap := h₂, toks := tk }) L.le L.S L.F L.M k (L.hs.trans (.of _ _ _)); ⟨w₂, q⟩⟩)
  | some v =>
    have hlt : i < items.length := (List.getElem?_eq_some_iff.mp hv).1
    rw [List.drop_eq_getElem_cons hlt, (List.getElem?_eq_some_iff.mp hv).2] at ev
    have ev : bindS (f v ρ₁ σ₁) (fun ρ σ => loop f (items.drop (i + 1)) ρ σ) = res := ev
    cases hfv : f v ρ₁ σ₁ with
    | none => rw [hfv] at ev; rw [← ev] at hev; exact no hev
    | some r =>
      rw [hfv] at ev
      obtain ⟨ρa, ha, hex⟩ := hf v ρ₁ σ₁ _ hfv
      refine it.turn i v s₁ _ _ _ _ hv (fun x h => hgo _ h v x ρ₁ ρa ha) L.st fun x h₂ tk hx st₂ k => ?_
      obtain ⟨p2, hp2⟩ := it.at_ _ _ st₂
      have sb : Y.w.Sub (L.pt (tk := tk) hp2 k).w := ⟨fun a o e => L.sub.m _ _ ((P.sub L.le).m _ _ (P.l.sub.m _ _ e)), P.l.sub.φ.trans (P.sub L.le).φ⟩
      refine wpAny_mono (htgt (L.pt (tk := tk) hp2 k) v x ρa _ rfl ha (it.mono _ _ _ _ _ hx sb)) (fun _ s₃ z₃ => ?_) fun _ _ q => q
      obtain ⟨w₃, q₃⟩ := z₃
      have st₃ := P.stays it hkept (L.pt (tk := tk) hp2 k).le q₃.le (L.pt (tk := tk) hp2 k).S q₃.S st₂
      have hs₃ : Same s₀ s₃ := (L.hs.trans (.of _ _ _)).trans q₃.hs
      obtain ⟨fl2, ρ2, σ2⟩ := r
      have hbb := hb ((L.pt (tk := tk) hp2 k).next q₃) fl2 ρ2 σ2 hex
      cases fl2 with
      | next =>
        refine wpAny_mono hbb (fun fw s₄ q => ?_) fun e s₄ q => q.elim
        obtain ⟨rfl, w₄, q⟩ := q
        exact ⟨_, Nat.sub_lt_sub_left (Nat.lt_succ_of_lt hlt) (Nat.lt_succ_self i), .mk (i + 1) w₄ p2 ρ2 σ2 ⟨hlt, hs₃.trans q.hs, q.le, q.S, q.F, q.M, P.stays it hkept q₃.le q.le q₃.S q.S st₃, ev⟩⟩
      | ret u =>
        refine wpAny_mono hbb (fun fw s₄ q => ?_) fun e s₄ q => q.elim
        obtain ⟨y, w₄, rfl, q, hv4⟩ := q
        rw [← ev] at hev
        cases hev
        obtain ⟨w₅, q₅, sb⟩ := P.leave (s₁ := s₄) q.le q.S q.F q.M (fun _ _ _ e => e) (hs₃.trans q.hs)
        exact hR _ _ ⟨y, w₅, rfl, q₅, hv4.mono sb⟩
      | exc y => rw [← ev] at hev; exact no hev
theorem folded_plain {e : Expr} (h : notSetE e = true) (x : Value) : foldedSetIterable e env x = pure x := by
  cases e <;> first | rfl | exact noB h
theorem sim_for1 {k : Nat} {it : E} {b : List S} {x : Str} {p : Pos} {ie : Expr} {bs : List Stmt} (hvis : VisOK cx.vis) (hx : cx.vis.lookup x = some k) (hl : cx.scope.names.lookup x = some .local ∨ cx.scope.names.lookup x = some .cell) (hset : notSetE ie = true)
    (hi : Sim G n cx it ie) (hb : SimSs G n cx b bs) : SimS G n cx (.for1 k it b) (.For (.Name x p) ie bs [] pos) := fun Y fl ρ' σ' hev =>
  wpAny_For (hi.bindS Y (.refl _) hev fun y yv w₁ σ₁ s₁ q hy hk => by
    obtain ⟨items, hitems, hk⟩ := onO_inv hk
    exact iter_sound (tgt := .Name x p) q.S Y.hA.handled hy hitems trivial fun ob fp T w' l itr st0 hkept hfr =>
      loop_sound (Y.to q) q.hs (asg := fun v ρ => some (upd ρ k v)) (fun v ρ σ r h => ⟨_, rfl, h⟩) (fun Z v x' ρ₁ Ex _ ha hv => by cases ha; exact wpAny_assign_Name (wpAny_mono (store_name Z hvis hx hl hv) (fun _ _ ⟨w', q, _⟩ => ⟨w', q⟩) fun _ _ q => q)) (fun w _ v x' ρ ρ₁ _ _ hne => absurd rfl (hne x p)) hb ⟨l, fun a q => in1 q ▸ get_size _⟩ (.of itr) st0 (push_keeps _ _) hkept hk fun fw s' q => q) (folded_plain hset)
end
end Lw
namespace Lw
open PySem PySem.W PySem.Calls PyProof.Rows
section
variable {G : Gl} {n : Nat} {cx : Cxt} {w w' w₀ w₁ : Wd} {s s' s₀ : Shared} {σ σ' σ₁ : St} {h h' : Heap} {ρ ρ' : Rho} {fl : Fl} {env : Env} {I a l1 l2 : Addr} {pos : Pos} {xs ys : Array Value} {i : Nat}
theorem in5 (j : Nat) (h : j < 5) : In I 5 (I + j) := ⟨Nat.le_add_right .., Nat.add_lt_add_left h _⟩
theorem in50 : In I 5 I := in5 0 (by decide)
theorem in51 : In I 5 (I + 1) := in5 1 (by decide)
theorem in52 : In I 5 (I + 2) := in5 2 (by decide)
theorem in53 : In I 5 (I + 3) := in5 3 (by decide)
theorem in54 : In I 5 (I + 4) := in5 4 (by decide)
structure ZT (I l1 l2 : Addr) (xs ys : Array Value) (i : Nat) (h : Heap) : Prop where
  z : IsZip h (I + 4) (I + 2) (I + 3) .none
  ti : IsPair h (I + 2) (.ref I) (.ref (I + 1))
  to : ∃ a b, IsPair h (I + 3) a b
  i1 : h.IsListIter I l1 i
  i2 : h.IsListIter (I + 1) l2 i
  l1 : h.IsList l1 xs
  l2 : h.IsList l2 ys
theorem ZT.keep (T : ZT I l1 l2 xs ys i h) (k : ∀ b, In I 5 b ∨ b ∈ [l1, l2] → ∀ o, h.get? b = some o → h'.get? b = some o) : ZT I l1 l2 xs ys i h' :=
  ⟨k _ (.inl in54) _ T.z, k _ (.inl in52) _ T.ti, T.to.imp fun _ => Exists.imp fun _ => k _ (.inl in53) _, T.i1.at fun o => k _ (.inl in50) o, T.i2.at fun o => k _ (.inl in51) o, T.l1.at fun o => k _ (.inr (List.mem_cons_self ..)) o, T.l2.at fun o => k _ (.inr (List.mem_cons_of_mem _ (List.mem_cons_self ..))) o⟩
theorem ZT.some_ (T : ZT I l1 l2 xs ys i h) (q : In I 5 a) : ∃ o, h.get? a = some o := by
  obtain ⟨j, hj⟩ := Nat.le.dest q.1
  have h5 : j < 5 := Nat.lt_of_add_lt_add_left (hj.symm ▸ q.2)
  subst hj
  cases j with
  | zero => exact T.i1.imp fun _ e => e.1
  | succ j => cases j with
    | zero => exact T.i2.imp fun _ e => e.1
    | succ j => cases j with
      | zero => exact ⟨_, T.ti⟩
      | succ j => cases j with
        | zero => exact T.to.elim fun _ e => e.elim fun _ e => ⟨_, e⟩
        | succ j => cases j with
          | zero => exact ⟨_, T.z⟩
          | succ j => exact absurd h5 (Nat.not_lt_of_le (Nat.le_add_left ..))
theorem ZT.objs (T : ZT I l1 l2 xs ys i h) : ∃ p : Addr → Obj, ∀ a, In I 5 a → h.get? a = some (p a) :=
  ⟨fun a => (h.get? a).getD { cls := .type "tuple", data := .seq #[] }, fun a q => by
    obtain ⟨o, e⟩ := T.some_ q
    show h.get? a = some ((h.get? a).getD _)
    rw [e]; rfl⟩
theorem zipV_get {vs us : List V} {v : V} (h : (zipV vs us)[i]? = some v) : ∃ a b, v = .tup [a, b] ∧ vs[i]? = some a ∧ us[i]? = some b := by
  unfold zipV at h
  rw [List.getElem?_zipWith] at h
  cases h1 : vs[i]? with
  | none => rw [h1] at h; cases h
  | some a => cases h2 : us[i]? with
    | none => rw [h1, h2] at h; cases h
    | some b => rw [h1, h2] at h; cases h; exact ⟨a, b, rfl, rfl, rfl⟩
theorem zipV_end {vs us : List V} (hv : vs.length = xs.size) (hu : us.length = ys.size) : xs[(zipV vs us).length]? = none ∨ ys[(zipV vs us).length]? = none := by
  rw [show (zipV vs us).length = min vs.length us.length from List.length_zipWith, hv, hu]
  rcases Nat.le_total xs.size ys.size with q | q
  · rw [Nat.min_eq_left q]; exact .inl (Array.getElem?_eq_none (Nat.le_refl _))
  · rw [Nat.min_eq_right q]; exact .inr (Array.getElem?_eq_none (Nat.le_refl _))
structure ZI (G : Gl) (w : Wd) (h : Heap) (v : V) (x : Value) : Prop where
  ex : ∃ t a b xa xb, x = .ref t ∧ v = .tup [a, b] ∧ IsPair h t xa xb ∧ VR G w a xa ∧ VR G w b xb
theorem ZI.ref {v : V} {x : Value} (h : ZI G w h' v x) : ∃ t, x = .ref t := by
  obtain ⟨t, _, _, _, _, e, _⟩ := h.ex
  exact ⟨t, e⟩
theorem ZI.mono {v : V} {x : Value} (h : ZI G w h' v x) (sb : w.Sub w') : ZI G w' h' v x := by
  obtain ⟨t, a, b, xa, xb, e1, e2, e3, r1, r2⟩ := h.ex
  exact ⟨t, a, b, xa, xb, e1, e2, e3, r1.mono sb, r2.mono sb⟩
theorem zip_itr {A : Around} {hd : Bool} {es : List Expr} {st : Nat} {p : Pos} {vs us : List V} (hA : hd = false → A.handled = none) (D : ZipApart (I + 4) (I + 2) (I + 3) I (I + 1) l1 l2) (hv : VRs G w vs xs.toList) (hu : VRs G w us ys.toList) :
    Itz G A hd w (.Tuple es st p) I 5 (I + 4) [l1, l2] (zipV vs us) (ZT I l1 l2 xs ys) (ZI G) where
  frame := fun _ _ _ T k => T.keep k
  at_ := fun _ _ T => T.objs
  mono := fun _ _ _ _ _ h sb => h.mono sb
  turn := fun i v s N C Ex Ex' hvi _ T k => by
    obtain ⟨va, vb, rfl, ha, hb⟩ := zipV_get hvi
    obtain ⟨xa, hxa, ra⟩ := VRs.getArr hv ha
    obtain ⟨xb, hxb, rb⟩ := VRs.getArr hu hb
    obtain ⟨ta, tb, hto⟩ := T.to
    refine wpAny_pyNext_zip_item D T.z T.ti hto T.i1 T.i2 T.l1 T.l2 hxa hxb fun h₂ z2 t2 j1 j2 tt sz k2 => ?_
    refine wpAny_letOwnedTupleGo_zip z2 fun h₃ z3 sb3 => k _ h₃ s.toks ⟨_, va, vb, xa, xb, rfl, rfl, sb3.extBut _ _ (Nat.ne_of_gt (Heap.lt_size T.z)) tt, ra, rb⟩ ?_ fun b o hb e => sb3.extBut _ _ (fun q => hb (q ▸ in54)) (k2 b o (fun q => hb (q ▸ in54)) (fun q => hb (q ▸ in53)) (fun q => hb (q ▸ in50)) (fun q => hb (q ▸ in51)) e)
    exact ⟨z3, sb3.extBut _ _ D.TIz (k2 _ _ D.TIz D.TITO D.TIi1 D.TIi2 T.ti), ⟨xa, xb, sb3.extBut _ _ D.TOz t2⟩, j1.extBut sb3.extBut D.i1z, j2.extBut sb3.extBut D.i2z, (T.l1.at fun o e => k2 _ o D.l1z D.l1TO D.l1i1 D.l1i2 e).extBut sb3.extBut D.l1z, (T.l2.at fun o e => k2 _ o D.l2z D.l2TO D.l2i1 D.l2i2 e).extBut sb3.extBut D.l2z⟩
  done := fun h0 s Q Ex T k => by
    obtain ⟨ta, tb, hto⟩ := T.to
    exact wpAny_pyNext_zip_end (hA h0) D T.z T.ti hto T.i1 T.i2 T.l1 T.l2 (zipV_end hv.size hu.size) fun h₂ k2 => k h₂ s.toks fun b o hb e => k2 b o (fun q => hb (q ▸ in54)) (fun q => hb (q ▸ in53)) (fun q => hb (q ▸ in50)) (fun q => hb (q ▸ in51)) e
theorem okRs_inv {m : Option (Res (List V) × St)} {k : List V → St → RS} {r : Fl × Rho × St} (h : okRs m k = some r) : ∃ a σ, m = some (.ok a, σ) ∧ k a σ = some r := by
  rcases m with _ | ⟨a | e, σ⟩
  · exact no h
  · exact ⟨a, σ, rfl, h⟩
  · exact no h
theorem zip_lock {vx : V} {x1 : Value} {vs : List V} (S : SR G w σ s.heap) (v1 : VR G w vx x1) (hxs : seqOf σ vx = some vs) (hx : x1 = .ref l1) : ∃ w', Lk G w s.heap σ vx w' ∧ ∃ o q, w'.m l1 = some o ∧ o.ex = some q := by
  subst hx
  cases v1 with
  | lst e1 => exact ⟨w, .off rfl (fun _ => rfl), _, _, e1, rfl⟩
  | ref hp =>
    obtain ⟨o, hg, ho⟩ := Option.bind_eq_some_iff.mp (show (σ.get _).bind O.items = some vs from hxs)
    have rr := S.ref hp hg
    cases o with
    | list l vs =>
      obtain ⟨ob, l', c⟩ := rr.coll (fun e => by cases e)
      exact ⟨_, .on hp hg c, c.kept⟩
    | _ => exact no ho
  | _ => exact no hxs
theorem zip_call {A : Around} {R : Value → Shared → Prop} {Ex : Value → Shared → Prop} {vx : V} {x1 x2 : Value} {vs us : List V} (S : SR G w σ s.heap) (v1 : VR G w vx x1) (v2 : VR G w (.lst us) x2) (hxs : seqOf σ vx = some vs)
    (k : ∀ l1 l2 xs ys h' w', Lk G w s.heap σ vx w' → ZipApart (s.heap.objs.size + 4) (s.heap.objs.size + 2) (s.heap.objs.size + 3) s.heap.objs.size (s.heap.objs.size + 1) l1 l2 → VRs G w vs xs.toList → VRs G w us ys.toList → ZT s.heap.objs.size l1 l2 xs ys 0 h' → (∀ b o, s.heap.get? b = some o → h'.get? b = some o) → (∀ b ∈ [l1, l2], ∃ o q, w'.m b = some o ∧ o.ex = some q) → R (.ref (s.heap.objs.size + 4)) { s with heap := h' }) :
    wpAny G.M A (call (.type "zip") [x1, x2]) R Ex s := by
  obtain ⟨l1, ar1, rfl, hl1, hvs, _⟩ := seqOf_sound S v1 hxs
  cases v2 with
  | @lst _ l2 o2 ar2 k3 e1 e2 e3 e4 e5 =>
    have hl2 : s.heap.IsList l2 ar2 := ⟨_, S.at e1, e2, _, e3⟩
    obtain ⟨w', lk, hk1⟩ := zip_lock S v1 hxs rfl
    exact call_zip_2 hl1 hl2 fun h' hz hTI hTO hit1 hit2 hsz hkp => k l1 l2 ar1 ar2 h' w' lk (zipApart_new (hl1.elim fun _ e => Heap.lt_size e.1) (Heap.lt_size (S.at e1))) hvs e4 ⟨hz, hTI, ⟨_, _, hTO⟩, hit1, hit2, hl1.at fun o e => hkp _ o e, hl2.at fun o e => hkp _ o e⟩ hkp fun b hb => by
      rcases List.mem_cons.mp hb with rfl | hb
      · exact hk1
      · cases List.mem_singleton.mp hb; exact ⟨_, _, lk.sub.m _ _ e1, rfl⟩
theorem asg2_zip {k1 k2 : Nat} {x y : Str} {p1 p2 p3 : Pos} {st : Nat} {v : V} {x' : Value} {Ex : Value → Shared → Prop} (hvis : VisOK cx.vis) (hx : cx.vis.lookup x = some k1) (hl : cx.scope.names.lookup x = some .local) (hy : cx.vis.lookup y = some k2) (hly : cx.scope.names.lookup y = some .local) (Z : PtS G n cx) (hZ : Z.hd = false) (ha : asg2 k1 k2 v Z.ρ = some ρ') (hv : ZI G Z.w Z.s.heap v x') :
    wpAny G.M Z.A (assign (.Tuple [.Name x p1, .Name y p2] st p3) Z.env x') (fun _ s' => ∃ w', SPost G cx.vis Z.w₀ Z.s Z.env w' ρ' Z.σ s') Ex Z.s := by
  obtain ⟨t, va, vb, xa, xb, rfl, rfl, hT, ra, rb⟩ := hv.ex
  cases ha
  refine assign_Tuple_tuple (Z.hA.handled hZ) (items := #[xa, xb]) ⟨_, hT, rfl, _, rfl⟩ rfl rfl fun h' hext => ?_
  have p : Post G Z.w Z.s Z.w Z.σ { Z.s with heap := h' } := ⟨.of _ _ Z.s.toks, .refl _, Z.S.keeps fun b q e => hext b q (Nat.ne_of_lt (Heap.lt_size e)) e⟩
  exact assignInOrder_cons (wpAny_assign_Name (wpAny_mono (store_local (Z.to p) hvis hx hl ra) (fun _ s2 ⟨w2, q2, sb⟩ => assignInOrder_cons (wpAny_assign_Name (wpAny_mono (store_local ((Z.to p).next q2) hvis hy hly (rb.mono sb)) (fun _ s3 ⟨w3, q3, _⟩ => assignInOrder_nil ⟨w3, (q3.mono q2.hs).mono p.hs⟩) fun _ _ e => e))) fun _ _ e => e))
theorem zip_el {m : Option (Res (List V) × St)} {k : St → V → List V → List V → RS} {r : Fl × Rho × St} {C : Prop} (h : okRs m (fun vs σ => arg2 vs fun x y => onO (seqOf σ x) fun xs => onO (withLst y some) fun ys => k σ x xs ys) = some r)
    (K : ∀ x xs ys σ, m = some (.ok [x, .lst ys], σ) → seqOf σ x = some xs → k σ x xs ys = some r → C) : C := by
  obtain ⟨vs, σ₁, h1, h⟩ := okRs_inv h
  obtain ⟨vx, vy, rfl, h⟩ := arg2_inv h
  obtain ⟨xs, hxs, h⟩ := onO_inv h
  obtain ⟨ys, hys, h⟩ := onO_inv h
  obtain ⟨us, rfl, hys⟩ := withLst_inv hys
  cases hys
  exact K _ _ _ _ h1 hxs h
theorem sim_forZ {k1 k2 : Nat} {a b : E} {d : List S} {x y : Str} {p1 p2 p3 p4 cpos : Pos} {st : Nat} {es : List Expr} {bs : List Stmt} (hvis : VisOK cx.vis) (hx : cx.vis.lookup x = some k1) (hl : cx.scope.names.lookup x = some .local) (hy : cx.vis.lookup y = some k2) (hly : cx.scope.names.lookup y = some .local)
    (hg : cx.isGlob (Str.ofString "zip") = true) (hk : nsIn G.K mainGlobals (Str.ofString "zip") = some none) (ha : Sims G n cx [a, b] es) (hb : SimSs G n cx d bs) : SimS G n cx (.forZ k1 k2 a b d) (.For (.Tuple [.Name x p1, .Name y p2] st p3) (.Call (.Name (Str.ofString "zip") p4) es [] cpos) bs [] pos) := fun Y fl ρ' σ' hev => by
  have hd0 := ifn_inv (show (if Y.hd = true then none else _) = some (fl, ρ', σ') from hev)
  refine zip_el hd0.2 fun vx xs ys σ₁ h1 hxs hev => ?_
  refine wpAny_For (wpAny_mono (callName_sound (α := List V) (f := .type "zip") (kn := []) (kes := []) (ks := []) (k := fun vs _ σ => some (.ok vs, σ)) (r := .ok [vx, .lst ys]) (σ' := σ₁) Y.pt (fun hQ => glob_bi Y.pt hg hk (by kernel_rfl) (by decide) hQ) keeps_type ha .nil (by rw [show Y.pt.evs [a, b] = some (.ok [vx, .lst ys], σ₁) from h1]; rfl) fun vs' us' xv yv w₁ σ₂ s₁ q hv hu' hk' => ?_) (fun _ _ q => q) fun _ _ q => q.elim) (folded_plain rfl)
  cases hk'
  cases hv with | cons v1 hv => cases hv with | cons v2 hv => cases hv with | nil =>
  exact zip_call q.S v1 v2 hxs fun l1 l2 ar1 ar2 h' w' lk D hvs hus T hkp hkept => wpAny_pyIter_zip T.z (loop_sound (Y.to q) q.hs (asg := asg2 k1 k2) (fun v ρ σ r h => onO_inv h) (fun Z v x' ρ₁ Ex hZ ha hv => asg2_zip hvis hx hl hy hly Z (hZ.trans (Bool.eq_false_iff.mpr hd0.1)) ha hv) (fun w _ v x' ρ ρ₁ ha hv hne => hv.ref) hb ⟨lk, fun a z => Heap.get?_none_of_le z.1⟩ (zip_itr (Y.to q).hA.handled D hvs hus) T hkp hkept hev fun fw s' q => q)
end
end Lw
namespace Lw
open PySem PySem.W PySem.Calls PyProof.Rows
noncomputable def clOf (cells : List (Str × Addr)) : List (Str × NameKind) → List (Str × Addr) → List (Str × Addr)
  | [], acc => acc
  | (x, k) :: r, acc => if k = .free then clOf cells r ((x, (cells.lookup x).getD 0) :: acc) else clOf cells r acc
section
variable {G : Gl} {n : Nat} {cx : Cxt} {w w' w₀ w₁ : Wd} {s s' s₀ : Shared} {σ σ' σ₁ : St} {ρ ρ' : Rho} {env : Env} {pos : Pos} {cells : List (Str × Addr)} {y : Str}
theorem look_cons {α : Type} {x : Str} {a : α} {r : List (Str × α)} (h : y ≠ x) : ((x, a) :: r).lookup y = r.lookup y := by
  rw [List.lookup_cons, show (y == x) = false from beq_eq_false_iff_ne.mpr h]
theorem look_self {α : Type} {x : Str} {a : α} {r : List (Str × α)} : ((x, a) :: r).lookup x = some a := by
  rw [List.lookup_cons, beq_self_eq_true]
theorem getD_some {α : Type} {o : Option α} {d : α} (h : o.isSome = true) : o = some (o.getD d) := by
  cases o with
  | none => exact noB h
  | some a => rfl
theorem clOf_sub : ∀ (names : List (Str × NameKind)) (acc : List (Str × Addr)), (∀ a, acc.lookup y = some a → cells.lookup y = some a) → (∀ x ∈ names, x.2 = .free → (cells.lookup x.1).isSome = true) → ∀ a, (clOf cells names acc).lookup y = some a → cells.lookup y = some a := by
  intro names
  induction names with
  | nil => intro _ h _; exact h
  | cons p r ih =>
    intro acc h hn
    obtain ⟨x, k⟩ := p
    have hr : ∀ x ∈ r, x.2 = .free → (cells.lookup x.1).isSome = true := fun z hz => hn z (List.mem_cons_of_mem _ hz)
    unfold clOf
    split
    · rename_i hk
      refine ih _ (fun b hb => ?_) hr
      by_cases q : y = x
      · subst q
        rw [look_self] at hb
        exact (getD_some (hn (y, k) (List.mem_cons_self ..) hk)).trans hb
      · rw [look_cons q] at hb; exact h b hb
    · exact ih acc h hr
theorem clOf_has : ∀ (names : List (Str × NameKind)) (acc : List (Str × Addr)), ((∃ a, acc.lookup y = some a) ∨ (y, NameKind.free) ∈ names) → ∃ a, (clOf cells names acc).lookup y = some a := by
  intro names
  induction names with
  | nil => intro acc h; exact h.elim id fun q => nomatch q
  | cons p r ih =>
    intro acc h
    obtain ⟨x, k⟩ := p
    unfold clOf
    by_cases q : y = x
    · subst q
      split
      · exact ih _ (.inl ⟨_, look_self⟩)
      · rename_i hk
        exact ih _ (h.imp id fun q => (List.mem_cons.mp q).elim (fun e => by cases e; exact absurd rfl hk) id)
    · have h : (∃ a, acc.lookup y = some a) ∨ (y, NameKind.free) ∈ r := h.imp id fun z => (List.mem_cons.mp z).elim (fun e => by cases e; exact absurd rfl q) id
      split
      · exact ih _ (h.imp (fun ⟨a, e⟩ => ⟨a, (look_cons q).trans e⟩) id)
      · exact ih _ h
theorem closureFor_is {scope : Scope} (hn : ∀ x ∈ scope.names, x.2 = .free → (env.cells.lookup x.1).isSome = true) : closureFor scope env = pure (clOf env.cells scope.names []) := by
  have key : ∀ (names : List (Str × NameKind)) (acc : List (Str × Addr)), (∀ x ∈ names, x.2 = .free → (env.cells.lookup x.1).isSome = true) →
      forIn names acc (fun x cs => match x with | (name, kind) => if (kind == NameKind.free) = true then do let a ← cellOf env name; pure (ForInStep.yield ((name, a) :: cs)) else pure (ForInStep.yield cs)) = (pure (clOf env.cells names acc) : Sem (List (Str × Addr))) := by
    intro names
    induction names with
    | nil => intro acc _; rfl
    | cons z r ih =>
      obtain ⟨x, k⟩ := z
      intro acc hn
      have hr : ∀ x ∈ r, x.2 = .free → (env.cells.lookup x.1).isSome = true := fun z hz => hn z (List.mem_cons_of_mem _ hz)
      rw [List.forIn_cons]
      unfold clOf
      by_cases hk : k = NameKind.free
      · rw [if_pos hk, ← ih _ hr]
        dsimp only
        rw [if_pos (beq_iff_eq.mpr hk), show cellOf env x = pure ((env.cells.lookup x).getD 0) by unfold cellOf; rw [getD_some (d := 0) (hn (x, k) (List.mem_cons_self ..) hk)]; rfl]
        rfl
      · rw [if_neg hk, ← ih _ hr]
        dsimp only
        rw [if_neg fun e => hk (beq_iff_eq.mp e)]
        rfl
  have := key scope.names [] hn
  unfold closureFor
  simp only [bind_pure_comp] at this ⊢
  rw [this]; rfl
structure CompOK (cx : Cxt) (scope : Scope) (x : Str) (k : Nat) : Prop where
  kind : scope.kind = .function
  x : scope.names.lookup x = some .local
  new : ∀ p ∈ cx.vis, p.2 ≠ k
  free : ∀ z ∈ scope.names, z.2 = .free → cx.scope.names.lookup z.1 = some .cell
  nocell : ∀ z ∈ scope.names, z.2 ≠ .cell
  names : ∀ z ∈ scope.names, z.2 = .local → scope.names.lookup z.1 = some .local
theorem relabel_is {scope : Scope} (hn : Fits G cx env) (hk : env.scope.kind = .function) (hall : ∀ x ∈ scope.names, x.2 = .free → cx.scope.names.lookup x.1 = some .cell) : relabel scope env = compScope scope := by
  unfold relabel compScope
  congr 1
  refine List.map_congr_left fun x hx => ?_
  obtain ⟨y, k⟩ := x
  by_cases q : (k == NameKind.free) = true
  · have e2 : env.kindOf y = some .cell := by show env.scope.names.lookup y = _; rw [hn.names]; exact hall (y, k) hx (beq_iff_eq.mp q)
    simp only [q, hk, e2, beq_self_eq_true, Bool.and_self, Bool.true_and]
  · simp only [q, Bool.false_and]
noncomputable def unfree (k : NameKind) : NameKind := if k == .free then .cell else k
theorem lookup_comp (names : List (Str × NameKind)) : (names.map fun (n, k) => if k == .free then (n, .cell) else (n, k)).lookup y = (names.lookup y).map unfree := by
  rw [show (fun (p : Str × NameKind) => if (p.2 == NameKind.free) = true then (p.1, NameKind.cell) else (p.1, p.2)) = fun p => (p.1, unfree p.2) by funext p; unfold unfree; split <;> rfl]
  induction names with
  | nil => rfl
  | cons z r ih =>
    obtain ⟨x, k⟩ := z
    by_cases q : y = x
    · subst q; rw [List.map_cons, look_self, look_self]; rfl
    · rw [List.map_cons, look_cons q, look_cons q]; exact ih
theorem lookup_filter {vis : List (Str × Nat)} {f : Str → Bool} {j : Nat} (h : (vis.filter fun p => f p.1).lookup y = some j) : f y = true ∧ vis.lookup y = some j := by
  induction vis with
  | nil => exact no h
  | cons z r ih =>
    obtain ⟨x, k⟩ := z
    rw [List.filter_cons] at h
    by_cases q : y = x
    · subst q
      split at h
      · rw [look_self] at h ⊢; exact ⟨‹_›, h⟩
      · rename_i hf; exact absurd (ih h).1 hf
    · rw [look_cons q]
      split at h
      · rw [look_cons q] at h; exact ih h
      · exact ih h
theorem mem_lookup {α : Type} {l : List (Str × α)} {a : α} (h : l.lookup y = some a) : (y, a) ∈ l := by
  induction l with
  | nil => exact no h
  | cons z r ih =>
    obtain ⟨x, k⟩ := z
    by_cases q : y = x
    · subst q; rw [look_self] at h; cases h; exact List.mem_cons_self ..
    · rw [look_cons q] at h; exact List.mem_cons_of_mem _ (ih h)
theorem unfree_cell {k : NameKind} (h : unfree k = .cell) : k = .free ∨ k = .cell := by cases k <;> first | exact .inl rfl | exact .inr rfl | cases h
theorem unfree_free {k : NameKind} (h : unfree k = .free) : False := by cases k <;> cases h
theorem inner_fits {scope : Scope} {x : Str} {k : Nat} {C : Addr} (H : CompOK cx scope x k) (hn : Fits G cx env) (hk : env.scope.kind = .function) : Fits G (cx.inner scope x k) (compEnvC scope (clOf env.cells scope.names []) C env) := by
  refine ⟨congrArg Scope.names (relabel_is hn hk H.free), hn.cls, hn.attrs, fun y hy => ?_⟩
  obtain ⟨kd, q, e⟩ := Option.map_eq_some_iff.mp ((lookup_comp scope.names).symm.trans hy)
  have q := mem_lookup q
  rcases unfree_cell e with rfl | rfl
  · obtain ⟨a, e⟩ := clOf_has (cells := env.cells) scope.names [] (.inr q)
    exact Option.isSome_iff_exists.mpr ⟨a, e⟩
  · exact absurd rfl (H.nocell _ q)
theorem inner_vis {scope : Scope} {x z : Str} {k j : Nat} (h : (cx.inner scope x k).vis.lookup z = some j) : (z = x ∧ j = k) ∨ (z ≠ x ∧ scope.names.lookup z = some .free ∧ cx.vis.lookup z = some j) := by
  by_cases q : z = x
  · subst q; exact .inl ⟨rfl, (Option.some.inj (look_self.symm.trans h)).symm⟩
  · have ⟨a, b⟩ := lookup_filter (f := fun n => scope.names.lookup n == some .free) ((look_cons q).symm.trans h)
    exact .inr ⟨q, beq_iff_eq.mp a, b⟩
theorem inner_fr {scope : Scope} {x : Str} {k : Nat} {C : Addr} {v : V} {y : Value} {q : Obj} {m : Str → Option Value} (H : CompOK cx scope x k) (hn : Fits G cx env) (F : FR G w env cx.vis ρ) (hC : w.m C = some (.fr q)) (hq : ObjNs q m) (hm : m x = some y) (hv : VR G w v y) :
    FR G w (compEnvC scope (clOf env.cells scope.names []) C env) (cx.inner scope x k).vis (upd ρ k v) := by
  have hrl := congrArg Scope.names (relabel_is hn F.kind H.free)
  have kd : ∀ {z u}, (compEnvC scope (clOf env.cells scope.names []) C env).scope.names.lookup z = some u → ∃ d, scope.names.lookup z = some d ∧ unfree d = u := fun e =>
    Option.map_eq_some_iff.mp ((lookup_comp scope.names).symm.trans ((congrArg (List.lookup _) hrl.symm).trans e))
  refine ⟨congrArg Scope.kind (relabel_is hn F.kind H.free) |>.trans H.kind, F.glob, F.bi, ⟨q, m, hC, hq, fun z j u e1 e2 e3 => ?_⟩, fun z j u e1 e2 e3 => ?_⟩
  · rcases inner_vis e1 with ⟨rfl, rfl⟩ | ⟨_, e4, _⟩
    · cases (if_pos rfl).symm.trans e3; exact ⟨y, hm, hv⟩
    · obtain ⟨d, d1, d2⟩ := kd e2
      rw [e4] at d1; cases d1; cases d2
  · rcases inner_vis e1 with ⟨rfl, rfl⟩ | ⟨_, e4, e5⟩
    · rcases e2 with e2 | e2
      · obtain ⟨d, d1, d2⟩ := kd e2; rw [H.x] at d1; cases d1; cases d2
      · obtain ⟨d, d1, d2⟩ := kd e2; exact (unfree_free d2).elim
    · have e3 : ρ j = some u := (if_neg (H.new _ (mem_lookup e5))).symm.trans e3
      obtain ⟨a, o, t, d1, d2, d3, d4⟩ := F.cells z j u e5 (.inl (by rw [hn.names]; exact H.free _ (mem_lookup e4) rfl)) e3
      obtain ⟨a', ha'⟩ := clOf_has (cells := env.cells) scope.names [] (.inr (mem_lookup e4))
      have := clOf_sub scope.names [] (fun _ h => no h) (fun z hz hf => hn.cells z.1 (H.free z hz hf)) a' ha'
      rw [d1] at this; cases this
      exact ⟨a, o, t, ha', d2, d3, d4⟩
end
end Lw
namespace Lw
open PySem PySem.W PySem.Calls PyProof.Rows
theorem bindM_ok {α β : Type} {m : Option (Res α × St)} {k : α → St → Option (Res β × St)} {b : β} {σ' : St} (h : bindM m k = some (.ok b, σ')) : ∃ a σ₁, m = some (.ok a, σ₁) ∧ k a σ₁ = some (.ok b, σ') := by
  rcases m with _ | ⟨_ | _, _⟩
  · exact no h
  · exact ⟨_, _, rfl, h⟩
  · cases h
theorem okM_inv {α : Type} {m : Option (Res α × St)} {r : α × St} (h : okM m = some r) : m = some (.ok r.1, r.2) := by
  rcases m with _ | ⟨_ | _, _⟩
  · exact no h
  · cases h; rfl
  · exact no h
theorem fr_nofix {o : Obj} : ∀ z, Own.fr o ≠ .fix z := fun _ q => nomatch q
section
variable {G : Gl} {n : Nat} {cx : Cxt} {w w' w₀ w1 w2 : Wd} {s s' s₀ s1 : Shared} {σ σ' σ1 σr : St} {ρ ρ' : Rho} {env : Env} {pos : Pos} {I D C : Addr} {p q : Obj} {ys : Array Value} {e : Nat}
structure CIn (w' : Wd) (I D C : Addr) (w1 : Wd) (p : Obj) (ys : Array Value) (e : Nat) (q : Obj) : Prop where
  le : w'.Le w1
  i : w1.m I = some (.own p)
  d : w1.m D = some (.own (listObj ys e))
  c : w1.m C = some (.fr q)
theorem CIn.to (c : CIn w' I D C w1 p ys e q) (h : w1.Le w2) : CIn w' I D C w2 p ys e q := ⟨c.le.trans h, h.m _ _ c.i, h.m _ _ c.d, h.m _ _ c.c⟩
theorem Wd.Le.out {a : Addr} {x : Own} (h : w'.Le w1) (hn : w'.m a = none) : w'.Le (w1.set a x) := ⟨fun b o e => (Wd.set_ne fun q => by rw [q, hn] at e; cases e).trans (h.m b o e), h.φ⟩
structure Cm (X : Pt G n cx) (scope : Scope) (x : Str) (k : Nat) (itv : V) (w' : Wd) (I D C : Addr) : Prop where
  H : CompOK cx scope x k
  l : Lk G X.w X.s.heap X.σ itv w'
  i : w'.m I = none
  d : w'.m D = none
  c : w'.m C = none
  di : D ≠ I
  ci : C ≠ I
  cd : C ≠ D
section
variable {X : Pt G n cx} {scope : Scope} {x : Str} {k : Nat} {itv v : V} {y : Value} {m : Str → Option Value} (M : Cm X scope x k itv w' I D C)
include M
theorem Cm.setI {p2 : Obj} (c : CIn w' I D C w1 p ys e q) : CIn w' I D C (w1.set I (.own p2)) p2 ys e q := ⟨c.le.out M.i, Wd.set_at, (Wd.set_ne M.di).trans c.d, (Wd.set_ne M.ci).trans c.c⟩
theorem Cm.setD {ys' : Array Value} {e' : Nat} (c : CIn w' I D C w1 p ys e q) : CIn w' I D C (w1.set D (.own (listObj ys' e'))) p ys' e' q := ⟨c.le.out M.d, (Wd.set_ne (Ne.symm M.di)).trans c.i, Wd.set_at, (Wd.set_ne M.cd).trans c.c⟩
theorem Cm.setC {q' : Obj} (c : CIn w' I D C w1 p ys e q) : CIn w' I D C (w1.set C (.fr q')) p ys e q' := ⟨c.le.out M.c, (Wd.set_ne (Ne.symm M.ci)).trans c.i, (Wd.set_ne (Ne.symm M.cd)).trans c.d, Wd.set_at⟩
theorem Cm.fr : FR G w' X.env cx.vis X.ρ := X.F.swap M.l.sub fun _ _ _ e => M.l.fr e fr_nolk
noncomputable def Cm.pt (c : CIn w' I D C w1 p ys e q) (S : SR G w1 σ1 s1.heap) (hh : X.hd = false) (hN : ObjNs q m) (hm : m x = some y) (hv : VR G w1 v y) : Pt G n (cx.inner scope x k) :=
  ⟨false, w1, upd X.ρ k v, σ1, compEnvC scope (clOf X.env.cells scope.names []) C X.env, X.envs, X.A, s1, (X.B.mono M.l.sub).mono c.le.sub, S, inner_fr M.H X.hn (M.fr.mono c.le) c.c hN hm hv, inner_fits M.H X.hn X.F.kind,
    hh ▸ (X.hA.mono fun _ _ e => c.le.m _ _ (M.l.fr e fr_nolk)), X.fr⟩
theorem Cm.stays {A : Around} {hd : Bool} {tgt : Expr} {fp : List Addr} {items : List V} {T : Nat → Heap → Prop} {i : Nat} {q1 q2 : Obj} {y1 y2 : Array Value} {e1 e2 : Nat} {σ₁ σ₂ : St} {h₁ h₂ : Heap} (it : Itr G A hd X.w tgt I fp items T) (hkept : ∀ b ∈ fp, ∃ o q, w'.m b = some o ∧ o.ex = some q)
    (c1 : CIn w' I D C w1 p y1 e1 q1) (c2 : CIn w' I D C w2 p y2 e2 q2) (S1 : SR G w1 σ₁ h₁) (S2 : SR G w2 σ₂ h₂) (st : T i h₁) : T i h₂ := by
  refine it.frame i h₁ h₂ st fun b hb y e => ?_
  rcases hb with rfl | hb
  · rw [S1.m _ _ c1.i] at e; cases e
    exact S2.m _ _ c2.i
  · obtain ⟨o, q, e1, e2⟩ := hkept b hb
    rw [(S1.m _ _ (c1.le.m _ _ e1)).exact e2] at e; cases e
    exact (S2.m _ _ (c2.le.m _ _ e1)).exact e2
theorem Cm.outer {a : Addr} (h : w'.m a = none) : X.w.m a = none := by
  cases z : X.w.m a with
  | none => rfl
  | some o => obtain ⟨y, hy⟩ := M.l.agree z; rw [h] at hy; cases hy
theorem Cm.done {mt : Bool} {xs : List V} {h1 : Heap} {s3 : Shared} {r : Res V} (c : CIn w' I D C w1 p ys e q) (S : SR G w1 σr h1) (hx : VRs G w1 xs ys.toList) (hl : xs.length ≤ lim) (hs : Same X.s s3)
    (hk : ∀ b o, b ≠ I → h1.get? b = some o → s3.heap.get? b = some o) (hm : mkL mt xs (unlockV X.σ itv σr) = some (r, σ')) : ∃ a w3, r = .ok a ∧ Post G X.w X.s w3 σ' s3 ∧ VR G w3 a (.ref D) ∧ w3.m C = some (.fr q) := by
  have n1 : ∀ {a x}, w'.m a = some x → a ≠ I := fun e z => by rw [z, M.i] at e; cases e
  have st : ∀ {a x}, w'.m a = some x → (w1.del I).m a = some x := fun e => (Wd.del_ne (n1 e)).trans (c.le.m _ _ e)
  have sub1 : w1.Sub (w1.del I) := ⟨fun a o e => (Wd.del_ne fun z => by rw [z, c.i] at e; cases e).trans e, List.prefix_refl _⟩
  obtain ⟨w3, S3, sb, keeps, hφ, hag⟩ := M.l.unlock (w₁ := w1.del I) ⟨fun a o e => st e, c.le.φ⟩ (fun a x e _ => st e) (S.del c.i own_nofix (Wd.unheld_own c.i) hk)
  have hD : w3.m D = some (.own (listObj ys e)) := keeps _ _ ((Wd.del_ne M.di).trans c.d) fun i ob l z => by cases l <;> cases z
  have hC : w3.m C = some (.fr q) := keeps _ _ ((Wd.del_ne M.ci).trans c.c) fr_nolk
  have le : X.w.Le w3 := ⟨fun a x e' => let ⟨y, hy⟩ := M.l.agree e'; hag a x e' ((st hy).trans hy.symm), hφ ▸ M.l.sub.φ.trans c.le.φ⟩
  have hx3 : VRs G w3 xs ys.toList := (hx.mono sub1).mono sb
  have hDn := M.outer M.d
  have hat := S3.m _ _ hD
  rcases mkL_inv hm with ⟨rfl, rfl⟩ | ⟨rfl, rfl⟩
  · have ne : ∀ {a o}, w3.m a = some (.fix o) → a ≠ D := fun e' z => by rw [z, hD] at e'; cases e'
    have sub : w3.Sub (w3.new (D, D)) := ⟨fun a o e' => (Wd.new_ne (p := (D, D)) (ne e') (ne e')).trans e', List.prefix_append _ _⟩
    exact ⟨_, _, rfl, ⟨hs, Wd.le_new le hDn hDn, S3.adopt (p := (D, D)) sub (Wd.unheld_own hD) (Wd.unheld_own hD) (fun _ _ _ _ e => e) ⟨_, hat⟩ ⟨_, hat⟩ ⟨rfl, ys, e, hat, Wd.new_1 (p := (D, D)), hx3.mono sub, hl⟩⟩, S3.refNew (s := s3), (Wd.new_ne (p := (D, D)) M.cd M.cd).trans hC⟩
  · exact ⟨_, _, rfl, ⟨hs, le.out hDn, S3.turn (x := .fix (listObj ys e)) hD (fun _ _ _ e => e) hat⟩, .lst Wd.set_at rfl rfl (hx3.mono (sub_set hD own_nofix)) hl, (Wd.set_ne M.cd).trans hC⟩
end
theorem sub_del {a : Addr} (h : w.m a = some (.fr q)) : w.Sub (w.del a) := ⟨fun b o e => (Wd.del_ne fun z => by rw [z, h] at e; cases e).trans e, List.prefix_refl _⟩
theorem Post.drop {h3 : Heap} (P : Post G w s w1 σ' s1) (hC : w1.m C = some (.fr q)) (hn : w.m C = none) (k : Heap.SameBut C s1.heap h3) : Post G w s (w1.del C) σ' { s1 with heap := h3 } :=
  ⟨P.hs.trans (.of _ _ s1.toks), ⟨fun a x e => (Wd.del_ne fun z => by rw [z, hn] at e; cases e).trans (P.hw.m _ _ e), P.hw.φ⟩, P.S.del hC fr_nofix (Wd.unheld_fr hC) fun b o hb e => (k.2 b hb).trans e⟩
structure CInv {X : Pt G n cx} {scope : Scope} {x : Str} {k : Nat} {itv : V} (_ : Cm X scope x k itv w' I D C) (T : Nat → Heap → Prop) (test elt : V → St → RV) (items xs : List V) (σr : St) (i : Nat) (s1 : Shared) (w1 : Wd) (p : Obj) (ys : Array Value) (e : Nat) (q : Obj) (acc : List V) (σ1 : St) : Prop where
  hi : i ≤ items.length
  hs : Same X.s s1
  c : CIn w' I D C w1 p ys e q
  S : SR G w1 σ1 s1.heap
  ns : ∃ m, ObjNs q m
  va : VRs G w1 acc ys.toList
  al : acc.length ≤ i
  st : T i s1.heap
  ev : ∃ rest, compL test elt (items.drop i) σ1 = some (.ok rest, σr) ∧ acc ++ rest = xs
inductive CSt {X : Pt G n cx} {scope : Scope} {x : Str} {k : Nat} {itv : V} (M : Cm X scope x k itv w' I D C) (T : Nat → Heap → Prop) (test elt : V → St → RV) (items xs : List V) (σr : St) : Nat → Shared → Prop
  | mk {s1 : Shared} (i : Nat) (w1 : Wd) (p : Obj) (ys : Array Value) (e : Nat) (q : Obj) (acc : List V) (σ1 : St) (L : CInv M T test elt items xs σr i s1 w1 p ys e q acc σ1) : CSt M T test elt items xs σr (items.length + 1 - i) s1
noncomputable def evAt (X : Pt G n cx) (k : Nat) (e : E) (v : V) (σ : St) : RV := ev G.P (run G.P n) false e (upd X.ρ k v) σ
noncomputable def TestR (G : Gl) (n : Nat) (cx : Cxt) (ifs : List Expr) (cond : E) : Prop := (ifs = [] ∧ cond = .cBool true) ∨ ∃ e, ifs = [e] ∧ Sim G n cx cond e
theorem tests_run {ifs : List Expr} {cond : E} {tv : V} {b : Bool} {σ2 : St} {Q : Bool → Shared → Prop} {Ex : Value → Shared → Prop} (h : TestR G n cx ifs cond) (X : Pt G n cx) (hd : X.hd = false) (ht : ev G.P (run G.P n) false cond X.ρ X.σ = some (.ok tv, σ2)) (hb : truthV σ2 tv = some b) (hQ : ∀ s4 w4, Post G X.w X.s w4 σ2 s4 → Q b s4) :
    wpAny G.M X.A (forIn ifs true fun c r => if r = true then do let ok ← isTrue c X.env (eval c X.env); pure (ForInStep.yield ok) else pure (ForInStep.yield r)) Q Ex X.s := by
  rcases h with ⟨rfl, rfl⟩ | ⟨ce, rfl, hcs⟩
  · cases ht
    cases hb
    exact wpAny_tests_nil (hQ _ _ ⟨.of _ _ _, .refl _, X.S⟩)
  · refine wpAny_tests_one (wpAny_mono (hcs.t X (.ok tv) σ2 (by show ev G.P (run G.P n) X.hd cond X.ρ X.σ = _; rw [hd]; exact ht) fun _ q => by cases q; exact ⟨b, hb⟩) (fun b' s4 z => ?_) fun _ _ q => q.elim)
    obtain ⟨w4, P, hb'⟩ := z
    have hb' : truthV σ2 tv = some b' := hb'
    rw [hb] at hb'; cases hb'
    exact hQ _ _ P
theorem comp_turn {ee : Expr} {test : V → St → RV} {elt : E} {k : Nat} {x : Str} {px : Pos} {scope : Scope} {items xs acc rest : List V} {fp : List Addr} {T : Nat → Heap → Prop} {E1 E2 : Value → Shared → Prop} {itv v : V} {b : Bool} {i : Nat} {m : Str → Option Value} {y : Value} {X : Pt G n cx}
    (M : Cm X scope x k itv w' I D C) (hh : X.hd = false) (hce : Sim G n (cx.inner scope x k) elt ee) (it : Itr G X.A false X.w (.Name x px) I fp items T) (hkept : ∀ b ∈ fp, ∃ o q, w'.m b = some o ∧ o.ex = some q) (hlen : items.length ≤ lim)
    (hlt : i < items.length) (c : CIn w' I D C w1 p ys e q) (S : SR G w1 σ1 s1.heap) (hs : Same X.s s1) (hN : ObjNs q m) (hm : m x = some y) (hy : VR G w1 v y) (va : VRs G w1 acc ys.toList) (al : acc.length ≤ i) (st : T (i + 1) s1.heap) (hxs : acc ++ rest = xs)
    (hc : (match b with
      | true => bindM (evAt X k elt v σ1) fun x σ => bindM (compL test (evAt X k elt) (items.drop (i + 1)) σ) fun xs σ => some (.ok (x :: xs), σ)
      | false => compL test (evAt X k elt) (items.drop (i + 1)) σ1) = some (.ok rest, σr)) :
    if b = true then wpAny G.M X.A (eval ee (compEnvC scope (clOf X.env.cells scope.names []) C X.env)) (fun z s₄ => wpAny G.M X.A (call (.builtin "list.append") [.ref D, z]) (fun _ s₅ => ∃ m, m < items.length + 1 - i ∧ CSt M T test (evAt X k elt) items xs σr m s₅) E1 s₄) E2 s1
    else ∃ m, m < items.length + 1 - i ∧ CSt M T test (evAt X k elt) items xs σr m s1 := by
  have less := Nat.sub_lt_sub_left (Nat.lt_succ_of_lt hlt) (Nat.lt_succ_self i)
  cases b with
  | false => exact (if_neg Bool.false_ne_true).mpr ⟨_, less, .mk (i + 1) w1 p ys e q acc σ1 ⟨hlt, hs, c, S, ⟨m, hN⟩, va, Nat.le_succ_of_le al, st, rest, hc, hxs⟩⟩
  | true =>
    refine (if_pos rfl).mpr ?_
    obtain ⟨xe, σ3, he, hc⟩ := bindM_ok hc
    obtain ⟨rest', σ4, hr, hc⟩ := bindM_ok hc
    cases hc
    refine wpAny_mono (hce.v (M.pt c S hh hN hm hy) _ _ he) (fun z s5 z5 => ?_) fun _ _ q => q.elim
    obtain ⟨w5, P, hz⟩ := z5
    have c5 := c.to P.hw
    refine wpAny_list_append_plain (l := D) (items := ys) ⟨e, P.S.m _ _ c5.d⟩ (fun h6 z6 hS6 => ?_) (by rw [← VRs.size va]; exact lim_size0 (Nat.le_trans al (Nat.le_trans (Nat.le_of_lt hlt) hlen)))
    obtain ⟨e6, he6⟩ := z6
    have S6 : SR G (w5.set D (.own (listObj (ys.push z) e6))) σ3 h6 := P.S.turn c5.d (fun b o hb e => (hS6.2 b hb).trans e) he6
    have sb := sub_set (x := .own (listObj (ys.push z) e6)) c5.d own_nofix
    exact ⟨_, less, .mk (i + 1) _ p (ys.push z) e6 q (acc ++ [xe]) σ3 ⟨hlt, (hs.trans P.hs).trans (.of _ _ s5.toks), M.setD c5, S6, ⟨m, hN⟩, by rw [Array.toList_push]; exact All2.append ((va.mono P.hw.sub).mono sb) (.cons (hz.mono sb) .nil), by rw [List.length_append]; exact Nat.succ_le_succ al, M.stays it hkept c (M.setD c5) S S6 st, rest', hr, by rw [List.append_assoc]; exact hxs⟩⟩
theorem comp_loop {ee ie : Expr} {elt cond : E} {k : Nat} {x : Str} {px : Pos} {ifs : List Expr} {scope : Scope} {items xs : List V} {fp : List Addr} {T : Nat → Heap → Prop} {RR : Result → Shared → Prop} {itv : V} {s1 : Shared} {X : Pt G n cx} {acc : List V}
    (M : Cm X scope x k itv w' I D C) (hh : X.hd = false) (hce : Sim G n (cx.inner scope x k) elt ee) (hcc : TestR G n (cx.inner scope x k) ifs cond)
    (it : Itr G X.A false X.w (.Name x px) I fp items T) (hkept : ∀ b ∈ fp, ∃ o q, w'.m b = some o ∧ o.ex = some q) (hlen : items.length ≤ lim)
    (start : CInv M T (evAt X k cond) (evAt X k elt) items xs σr 0 s1 w1 p ys e q acc σ1)
    (hRR : ∀ w1 p ys e q h1 s2, CIn w' I D C w1 p ys e q → SR G w1 σr h1 → (∃ m, ObjNs q m) → VRs G w1 xs ys.toList → xs.length ≤ lim → Same X.s s2 → (∀ b o, b ≠ I → h1.get? b = some o → s2.heap.get? b = some o) → RR (.ok .next) s2) :
    codeAny G.M X.A (.compLoop (.ListComp ee [⟨.Name x px, ie, ifs, 0⟩] scope pos) 0 (.ref I) (.ref D) (compEnvC scope (clOf X.env.cells scope.names []) C X.env)) RR s1 := by
  refine codeAny_compLoop_tests (CSt M T (evAt X k cond) (evAt X k elt) items xs σr) (fun m s1 h => ?_) (items.length + 1) (.mk 0 _ _ _ _ _ _ _ start)
  cases h with
  | mk i w1 p ys e q acc σ1 L =>
  have hev := L.ev
  revert hev
  refine Exists.rec fun rest hx => ?_
  have hc := hx.1
  have hxs := hx.2
  cases hv : items[i]? with
  | none =>
    have hie : i = items.length := Nat.le_antisymm L.hi (List.getElem?_eq_none_iff.mp hv)
    rw [hie, List.drop_length] at hc
    cases hc
    rw [List.append_nil] at hxs
    exact it.done rfl s1 _ _ (hie ▸ L.st) fun h2 tk k => hRR w1 p ys e q s1.heap { s1 with heap := h2, toks := tk } L.c L.S L.ns (hxs ▸ L.va) (hxs ▸ Nat.le_trans L.al (hie ▸ hlen)) (L.hs.trans (.of _ _ _)) k
  | some v =>
    have hlt : i < items.length := (List.getElem?_eq_some_iff.mp hv).1
    rw [List.drop_eq_getElem_cons hlt, (List.getElem?_eq_some_iff.mp hv).2] at hc
    obtain ⟨tv, σ2, ht, hc⟩ := bindM_ok hc
    obtain ⟨b, htv, hc⟩ := onO_inv hc
    refine it.item i v s1 _ _ hv L.st fun y h2 tk hy st2 k2 => ?_
    obtain ⟨p2, hp2⟩ := it.at_ _ _ st2
    obtain ⟨mq, hN⟩ := L.ns
    have c2 := M.setI (p2 := p2) L.c
    have S2 : SR G (w1.set I (.own p2)) σ1 h2 := L.S.turn L.c.i k2 hp2
    obtain ⟨_, sl, hatC⟩ := S2.m _ _ c2.c
    refine wpAny_assign_Name (wpAny_storeName_local (s := { s1 with heap := h2, toks := tk }) (m := mq) (lookup_relabel_local M.H.x) ((hN.slots sl).ns hatC) (fun h3 hn3 hs3 => ?_) (by rw [show (compEnvC scope (clOf X.env.cells scope.names []) C X.env).scope.kind = .function from M.H.kind]; rfl))
    obtain ⟨q3, hq3, hN3⟩ := ObjNs.of hn3
    have c3 := M.setC (q' := q3) c2
    have S3 : SR G ((w1.set I (.own p2)).set C (.fr q3)) σ1 h3 := S2.turnF c2.c (fun b o hb e => (hs3.2 b hb).trans e) (okFr (let ⟨_, _, e, _⟩ := hN3; fun vs z => by rw [e] at z; cases z) hq3)
    have sub3 : w1.Sub ((w1.set I (.own p2)).set C (.fr q3)) := ⟨fun a o e => (sub_set c2.c fr_nofix).m _ _ ((sub_set L.c.i own_nofix).m _ _ e), List.prefix_refl _⟩
    have hy3 : VR G ((w1.set I (.own p2)).set C (.fr q3)) v y := (hy.mono M.l.sub).mono ⟨fun a o e => sub3.m _ _ (L.c.le.m _ _ e), L.c.le.φ⟩
    exact tests_run hcc (M.pt c3 S3 hh hN3 (show (fun k => if k = x then some y else mq k) x = some y from if_pos rfl) hy3) rfl ht htv fun s4 w4 P =>
      comp_turn M hh hce it hkept hlen hlt (c3.to P.hw) P.S ((L.hs.trans (.of _ _ _)).trans P.hs) hN3 (if_pos rfl) (hy3.mono P.hw.sub) ((L.va.mono sub3).mono P.hw.sub) L.al (M.stays it hkept c3 (c3.to P.hw) S3 P.S (M.stays it hkept c2 c3 S2 S3 st2)) hxs hc
end
end Lw
namespace Lw
open PySem PySem.W PySem.Calls PyProof.Rows
section
variable {G : Gl} {n : Nat} {cx : Cxt} {w w' w₀ w1 w2 : Wd} {s s' s₀ s1 : Shared} {σ σ' σ1 σr : St} {ρ ρ' : Rho} {env : Env} {pos : Pos}
theorem items_lim {v : V} {x : Value} {items : List V} (S : SR G w σ s.heap) (hv : VR G w v x) (hi : itemsOf σ v = some items) : items.length ≤ lim := by
  cases hv with
  | tup _ _ _ _ l => cases hi; exact l
  | lst _ _ _ _ l => cases hi; exact l
  | rng _ _ =>
    obtain ⟨⟨_, _, hl⟩, hi⟩ := if_inv hi
    cases hi
    unfold rngList
    rw [List.length_map, List.length_range]; exact hl
  | ref hp =>
    obtain ⟨o, hg, hi⟩ := onO_inv hi
    have rr := S.ref hp hg
    cases o with
    | list l vs => cases hi; obtain ⟨_, _, _, _, _, _, h⟩ := rr; exact h
    | di l es => cases hi; obtain ⟨_, _, _, _, _, _, _, h, _⟩ := rr; rw [List.length_map]; exact h
    | ds l es => cases hi; obtain ⟨⟨_, _, _, _, _, _, _, h, _⟩, _⟩ := rr; rw [List.length_map]; exact h
    | inst => exact no hi
  | _ => exact no hi
theorem comp_start {mt : Bool} {ee ie : Expr} {elt cond : E} {k : Nat} {x : Str} {px : Pos} {ifs : List Expr} {scope : Scope} {items : List V} {fp : List Addr} {T : Nat → Heap → Prop} {itv : V} {r : Res V} {rs : List V × St} {X : Pt G n cx} {ob : Obj} {RR : Value → Addr → Result → Shared → Prop} {Ex : Value → Shared → Prop}
    (H : CompOK cx scope x k) (hh : X.hd = false) (hce : Sim G n (cx.inner scope x k) elt ee) (hcc : (ifs = [] ∧ cond = .cBool true) ∨ ∃ e, ifs = [e] ∧ Sim G n (cx.inner scope x k) cond e)
    (l : Lk G X.w X.s.heap X.σ itv w') (it : Itr G X.A false X.w (.Name x px) X.s.heap.objs.size fp items T) (st : T 0 (X.s.heap.push ob)) (hkept : ∀ b ∈ fp, ∃ o q, w'.m b = some o ∧ o.ex = some q) (hfr : ob.isFreed = false) (hlen : items.length ≤ lim)
    (hc : okM (compL (fun v σ => ev G.P (run G.P n) false cond (upd X.ρ k v) σ) (fun v σ => ev G.P (run G.P n) false elt (upd X.ρ k v) σ) items (lockV X.σ itv)) = some rs) (hm : mkL mt rs.1 (unlockV X.σ itv rs.2) = some (r, σ'))
    (hRR : ∀ D C a w3 q s2, r = .ok a → Post G X.w X.s w3 σ' s2 → VR G w3 a (.ref D) → w3.m C = some (.fr q) → (∃ m, ObjNs q m) → X.w.m C = none → RR (.ref D) C (.ok .next) s2) :
    wpAny G.M X.A (newList []) (fun acc s₃ => wpAny G.M X.A (newFunctionEnv scope X.env.globals (clOf X.env.cells scope.names []) [] X.env.qual none .none (some X.env)) (fun cenv s₄ =>
      codeAny G.M X.A (.compStart (.ListComp ee [⟨.Name x px, ie, ifs, 0⟩] scope pos) 0 (.ref X.s.heap.objs.size) acc { cenv with scope := relabel scope X.env }) (RR acc cenv.locals) s₄) Ex s₃) Ex { X.s with heap := X.s.heap.push ob } := by
  refine wpAny_newObj_type (wpAny_newFunctionEnv H.nocell (fun _ hy => nomatch hy) (fun h₁ hns₁ hsb₁ => ?_) H.kind)
  dsimp only at hns₁ hsb₁ ⊢
  have eD : (X.s.heap.push ob).objs.size = X.s.heap.objs.size + 1 := Heap.size_push ..
  have eC : ((X.s.heap.push ob).push { cls := .type "list", dict := none, data := .seq ([] : List Value).toArray }).objs.size = X.s.heap.objs.size + 2 := (Heap.size_push ..).trans (congrArg (· + 1) eD)
  have old : ∀ b o, ((X.s.heap.push ob).push { cls := .type "list", dict := none, data := .seq ([] : List Value).toArray }).get? b = some o → h₁.get? b = some o := fun b o e => hsb₁.extBut b o (Nat.ne_of_lt (Heap.lt_size e)) (Heap.get?_push_of_some _ e)
  have hI1 : h₁.get? X.s.heap.objs.size = some ob := old _ _ (Heap.get?_push_of_some _ (Heap.get?_push_size _ hfr))
  have hD1 : h₁.get? (X.s.heap.objs.size + 1) = some (listObj #[] 0) := old _ _ (eD ▸ Heap.get?_push_size _ rfl)
  have hout : ∀ j, X.s.heap.get? (X.s.heap.objs.size + j) = none := fun j => by
    cases q : X.s.heap.get? (X.s.heap.objs.size + j) with
    | none => rfl
    | some o => exact absurd (Heap.lt_size q) (Nat.not_lt.mpr (Nat.le_add_right _ _))
  have hwn : ∀ j, w'.m (X.s.heap.objs.size + j) = none := fun j => l.none (X.S.fresh (hout j))
  rw [eC] at hns₁ hsb₁ ⊢
  rw [eD]
  obtain ⟨q₀, hq₀, hN₀⟩ := ObjNs.of hns₁
  have M : Cm X scope x k itv w' X.s.heap.objs.size (X.s.heap.objs.size + 1) (X.s.heap.objs.size + 2) := ⟨H, l, hwn 0, hwn 1, hwn 2, Nat.succ_ne_self _, Nat.ne_of_gt (Nat.lt_add_of_pos_right (by decide)), Nat.succ_ne_self _⟩
  have S1 := (l.sr X.S).put (x := .own ob) (hout 0) (fun b o e => old b o (Heap.get?_push_of_some _ (Heap.get?_push_of_some _ e))) hI1
  have n1 : (w'.set X.s.heap.objs.size (.own ob)).m (X.s.heap.objs.size + 1) = none := (Wd.set_ne M.di).trans M.d
  have S2 := S1.set (x := .own (listObj #[] 0)) (Wd.le_set n1).sub (Wd.unheld_none n1) (fun _ _ _ e => e) hD1
  have n2 : ((w'.set X.s.heap.objs.size (.own ob)).set (X.s.heap.objs.size + 1) (.own (listObj #[] 0))).m (X.s.heap.objs.size + 2) = none := ((Wd.set_ne M.cd).trans (Wd.set_ne M.ci)).trans M.c
  have S3 := S2.set (x := .fr q₀) (Wd.le_set n2).sub (Wd.unheld_none n2) (fun _ _ _ e => e) (okFr (let ⟨_, _, e, _⟩ := hN₀; fun vs z => by rw [e] at z; cases z) hq₀)
  have le2 := Wd.le_set (x := .fr q₀) n2
  have c : CIn w' X.s.heap.objs.size (X.s.heap.objs.size + 1) (X.s.heap.objs.size + 2) _ ob #[] 0 q₀ := ⟨(Wd.le_set M.i).trans ((Wd.le_set n1).trans le2), le2.m _ _ ((Wd.set_ne (Ne.symm M.di)).trans Wd.set_at), le2.m _ _ Wd.set_at, Wd.set_at⟩
  have st1 : T 0 h₁ := it.frame 0 _ _ st fun b _ o e => old b o (Heap.get?_push_of_some _ e)
  have loop := comp_loop (pos := pos) (ie := ie) (RR := RR (.ref (X.s.heap.objs.size + 1)) (X.s.heap.objs.size + 2)) (s1 := { X.s with heap := h₁, toks := X.s.toks + ([] : List (Str × Value)).length }) M hh hce hcc it hkept hlen ⟨Nat.zero_le _, .of _ _ _, c, S3, ⟨_, hN₀⟩, .nil, Nat.zero_le _, st1, rs.1, okM_inv hc, rfl⟩
    fun w1 p ys e q h1 s2 c1 S1 hN hx hl hs hk => by
      obtain ⟨a, w3, e1, P, hv, hC⟩ := M.done c1 S1 hx hl hs hk hm
      exact hRR _ _ a w3 q s2 e1 P hv hC hN (M.outer M.c)
  exact codeAny_compStart_list loop (it.self 0 _ _ _ st1 loop)
theorem sim_comp {mt : Bool} {ee ie : Expr} {elt it cond : E} {k : Nat} {x : Str} {px : Pos} {ifs : List Expr} {scope : Scope} (hset : notSetE ie = true) (H : CompOK cx scope x k) (hi : Sim G n cx it ie) (hce : Sim G n (cx.inner scope x k) elt ee)
    (hcc : (ifs = [] ∧ cond = .cBool true) ∨ ∃ e, ifs = [e] ∧ Sim G n (cx.inner scope x k) cond e) : Sim G n cx (.comp mt elt k it cond) (.ListComp ee [⟨.Name x px, ie, ifs, 0⟩] scope pos) := .of (fun X r σ' hev => by
  obtain ⟨hh, hev⟩ := ifn_inv hev
  have hh : X.hd = false := Bool.eq_false_iff.mpr hh
  rw [eval_ListComp]
  refine wpAny_comprehension_free (use := none) rfl (folded_plain hset) (closureFor_is fun z hz hf => X.hn.cells z.1 (H.free z hz hf)) H.kind H.names ?_
  have hev : bindM (X.ev it) (fun itv σ => onO (itemsOf σ itv) fun items => onO (okM (compL (fun v σ => ev G.P (run G.P n) false cond (upd X.ρ k v) σ) (fun v σ => ev G.P (run G.P n) false elt (upd X.ρ k v) σ) items (lockV σ itv))) fun r => mkL mt r.1 (unlockV σ itv r.2)) = some (r, σ') := by
    unfold Pt.ev; rw [hh]; exact hev
  refine hi.bind X .refl hev fun itv xv w₁ σ₁ s₁ p hx hk => ?_
  obtain ⟨items, hitems, hk⟩ := onO_inv hk
  obtain ⟨rs, hc, hk⟩ := onO_inv hk
  refine iter_sound (hd := false) (tgt := .Name x px) (items := items) p.S (fun _ => X.hA.handled hh) hx hitems trivial fun ob fp T w' l itr st0 hkept hfr => ?_
  exact comp_start (X := X.to p) H hh hce hcc l itr st0 hkept hfr (items_lim p.S hx hitems) hc hk fun D C a w3 q s2 e1 P hv hC ⟨m, hN⟩ hn => by
    obtain ⟨_, sl, hat⟩ := P.S.m _ _ hC
    subst e1
    exact ⟨m, (hN.slots sl).ns hat, fun h3 hs3 => ⟨_, p.ahead.post (P.drop hC hn hs3), hv.mono (sub_del hC)⟩⟩) fun _ _ => rfl
theorem bindE_bindM {m : RV} {f : V → St → RV} {ρ : Rho} {k : V → St → RS} : bindE (bindM m f) ρ k = bindE m ρ fun a σ => bindE (f a σ) ρ k := by
  rcases m with _ | ⟨_ | _, _⟩ <;> rfl
theorem bindE_onO {α : Type} {o : Option α} {f : α → RV} {ρ : Rho} {k : V → St → RS} : bindE (onO o f) ρ k = onO o fun a => bindE (f a) ρ k := by
  cases o <;> rfl
theorem bindE_mkL {mt : Bool} {vs : List V} {ρ : Rho} {k : V → St → RS} {r : Fl × Rho × St} (h : bindE (mkL mt vs σ) ρ k = some r) : ∃ a σ2, mkL mt vs σ = some (.ok a, σ2) ∧ k a σ2 = some r := by
  cases mt <;> exact ⟨_, _, rfl, h⟩
theorem none_le {a : Addr} (h : w.Le w') (e : w'.m a = none) : w.m a = none := by
  cases z : w.m a with
  | none => rfl
  | some o => have := h.m _ _ z; rw [e] at this; cases this
theorem SPost.drop {ρ' : Rho} {C : Addr} {q : Obj} {h3 : Heap} (P : SPost G cx.vis (w₀.set C (.fr q)) s env w1 ρ' σ' s1) (hn : w₀.m C = none) (k : Heap.SameBut C s1.heap h3) : SPost G cx.vis w₀ s env (w1.del C) ρ' σ' { s1 with heap := h3 } := by
  have hC := P.le.m _ _ (Wd.set_at (w := w₀) (a := C) (x := .fr q))
  have ne : ∀ {a}, (w₀.set C (.fr q)).m a = none → a ≠ C := fun e z => by rw [z, Wd.set_at] at e; cases e
  have fr : ∀ a o, owns env a → w1.m a = some (.fr o) → (w1.del C).m a = some (.fr o) := fun a o z e => (Wd.del_ne (ne (z.elim (fun z => z ▸ P.M.out) fun ⟨x, z⟩ => P.M.cout x a z))).trans e
  have out : ∀ {a}, (w₀.set C (.fr q)).m a = none → w₀.m a = none := fun e => (Wd.set_ne (ne e)).symm.trans e
  exact ⟨P.hs.trans (.of _ _ s1.toks), ⟨fun a x e => (Wd.del_ne fun z => by rw [z, hn] at e; cases e).trans (P.le.m _ _ ((Wd.set_ne fun z => by rw [z, hn] at e; cases e).trans e)), P.le.φ⟩, P.S.del hC fr_nofix (Wd.unheld_fr hC) fun b o hb e => (k.2 b hb).trans e, P.F.swap (sub_del hC) fr, P.M.frm, out P.M.out, fun x a e => out (P.M.cout x a e), P.M.cells' fr, P.M.inj⟩
noncomputable def PtS.used (Y : PtS G n cx) {C : Addr} {q : Obj} (P : Post G Y.w Y.s w1 σ' s1) (hC : w1.m C = some (.fr q)) (hn : Y.w.m C = none) : PtS G n cx :=
  have ne : ∀ {a}, (∃ o, Y.w.m a = some (.fr o)) → a ≠ C := fun ⟨o, e⟩ z => by rw [z, hn] at e; cases e
  have h0 : Y.w₀.m C = none := none_le Y.le hn
  ⟨Y.hd, Y.dr, Y.w₀.set C (.fr q), w1, Y.ρ, σ', Y.env, Y.envs, Y.A, s1, Y.B.mono (Wd.le_set h0).sub, ⟨fun a x e => by
    by_cases z : a = C
    · subst z; rw [Wd.set_at] at e; cases e; exact hC
    · rw [Wd.set_ne z] at e; exact P.hw.m _ _ (Y.le.m _ _ e), Y.le.φ.trans P.hw.φ⟩, P.S, Y.F.mono P.hw,
    ⟨Y.M.frm, (Wd.set_ne (ne (let ⟨o, _, e, _⟩ := Y.F.ns; ⟨o, e⟩))).trans Y.M.out, fun x a e => (Wd.set_ne (ne (let ⟨o, _, p, _⟩ := Y.M.cells x a e; ⟨o, p⟩))).trans (Y.M.cout x a e), (Y.M.mono P.hw).cells, Y.M.inj⟩, Y.hn, Y.hA.mono fun _ _ e => (Wd.le_set h0).m _ _ e, Y.fr⟩
theorem sim_assignC {mt : Bool} {ee ie : Expr} {elt it cond : E} {k kt : Nat} {x y : Str} {px py cpos : Pos} {ifs : List Expr} {scope : Scope} (hvis : VisOK cx.vis) (hy : cx.vis.lookup y = some kt) (hl : cx.scope.names.lookup y = some .local ∨ cx.scope.names.lookup y = some .cell) (hset : notSetE ie = true) (H : CompOK cx scope x k) (hi : Sim G n cx it ie) (hce : Sim G n (cx.inner scope x k) elt ee)
    (hcc : (ifs = [] ∧ cond = .cBool true) ∨ ∃ e, ifs = [e] ∧ Sim G n (cx.inner scope x k) cond e) : SimS G n cx (.assign kt (.comp mt elt k it cond)) (.Assign [.Name y py] (.ListComp ee [⟨.Name x px, ie, ifs, 0⟩] scope cpos) pos) := fun Y fl ρ' σ' hev => by
  have hsw : ∃ b, swapsWith (.ListComp ee [⟨.Name x px, ie, ifs, 0⟩] scope cpos) (some (.Name y py)) pos.line Y.env = pure b := ⟨_, rfl⟩
  obtain ⟨b, hb⟩ := hsw
  cases b with
  | false => exact assign_at Y hvis hy hl hb (sim_comp hset H hi hce hcc) hev
  | true =>
    unfold PtS.Runs; rw [exec_Assign_Name_used _ _ _ _ hb]
    refine wpAny_bind (wpAny_standAt (wpAny_bind (wpAny_bind ?_)))
    have hh : Y.hd = false := by
      cases z : Y.hd with
      | false => rfl
      | true => unfold PtS.exec at hev; rw [z] at hev; exact no hev
    refine wpAny_comprehension_free (use := some (assign (.Name y py) Y.env)) rfl (folded_plain hset) (closureFor_is fun z hz hf => Y.hn.cells z.1 (H.free z hz hf)) H.kind H.names ?_
    have hev : bindE (bindM (Y.pt.ev it) (fun itv σ => onO (itemsOf σ itv) fun items => onO (okM (compL (fun v σ => ev G.P (run G.P n) false cond (upd Y.ρ k v) σ) (fun v σ => ev G.P (run G.P n) false elt (upd Y.ρ k v) σ) items (lockV σ itv))) fun r => mkL mt r.1 (unlockV σ itv r.2))) Y.ρ (fun v σ => some (.next, upd Y.ρ kt v, σ)) = some (fl, ρ', σ') := by
      rw [show Y.pt.ev it = ev G.P (run G.P n) false it Y.ρ Y.σ from congrArg (fun h => ev G.P (run G.P n) h it Y.ρ Y.σ) hh]; unfold PtS.exec at hev; rw [hh] at hev; exact hev
    rw [bindE_bindM] at hev
    refine hi.bindS Y (.refl _) hev fun itv xv w₁ σ₁ s₁ p hx hk => ?_
    rw [bindE_onO] at hk
    obtain ⟨items, hitems, hk⟩ := onO_inv hk
    rw [bindE_onO] at hk
    obtain ⟨rs, hc, hk⟩ := onO_inv hk
    obtain ⟨a, σ2, hm, hk⟩ := bindE_mkL hk
    cases hk
    refine iter_sound (hd := false) (tgt := .Name x px) (items := items) p.S (fun _ => Y.hA.handled hh) hx hitems trivial fun ob fp T w' l itr st0 hkept hfr => ?_
    refine comp_start (X := (Y.to p).pt) H hh hce hcc l itr st0 hkept hfr (items_lim p.S hx hitems) hc hm fun D C a' w3 q s2 e1 P hv hC ⟨m, hN⟩ hn => ?_
    cases e1
    exact wpAny_assign_Name (wpAny_mono (store_name ((Y.to p).used P hC hn) hvis hy hl hv) (fun _ s3 ⟨w4, q4, _⟩ => by
      obtain ⟨_, sl, hat⟩ := q4.S.m _ _ (q4.le.m _ _ Wd.set_at)
      exact ⟨m, (hN.slots sl).ns hat, fun h3 hs3 => wpAny_pure (wpAny_pure ⟨rfl, _, ((q4.mono P.hs).mono p.hs).drop (none_le Y.le (none_le p.hw hn)) hs3⟩)⟩) fun _ _ z => z)
end
end Lw
namespace Lw
open PySem PySem.W PySem.Calls PyProof.Rows
theorem mapO_len {α β : Type} {g : α → Option β} {l : List α} : ∀ {ys : List β}, mapO g l = some ys → l.length = ys.length := by
  induction l with
  | nil => intro ys h; cases h; rfl
  | cons a r ih =>
    intro ys h
    obtain ⟨b, _, h⟩ := onO_inv h
    obtain ⟨bs, h2, h⟩ := onO_inv h
    cases h
    exact congrArg (· + 1) (ih h2)
theorem mapO_some {α β : Type} {g : α → Option β} {l : List α} : ∀ {ys : List β}, mapO g l = some ys → ∀ a ∈ l, ∃ b, g a = some b := by
  induction l with
  | nil => intro _ _ a h; exact nomatch h
  | cons b r ih =>
    intro ys h a ha
    obtain ⟨x, h1, h⟩ := onO_inv h
    obtain ⟨bs, h2, h⟩ := onO_inv h
    rcases List.mem_cons.mp ha with rfl | ha
    · exact ⟨x, h1⟩
    · exact ih h2 a ha
theorem fm_zip {f : Str → Option Value} {g : Str × Nat → Option Value} : ∀ (names : List Str) (k : Nat) (ys : List Value), (∀ p ∈ names.zipIdx k, f p.1 = g p) → mapO g (names.zipIdx k) = some ys → names.filterMap (fun n => (f n).map (n, ·)) = names.zip ys := by
  intro r
  induction r with
  | nil =>
    intro k ys _ h
    cases h; rfl
  | cons n r ih =>
    intro k ys he h
    obtain ⟨b, h1, h⟩ := onO_inv h
    obtain ⟨bs, h2, h⟩ := onO_inv h
    cases h
    have e : f n = some b := (he (n, k) (List.mem_cons_self ..)).trans h1
    rw [List.filterMap_cons, e]
    exact congrArg (List.cons _) (ih (k + 1) bs (fun p hp => he p (List.mem_cons_of_mem _ hp)) h2)
theorem lk_cons {κ α : Type} [DecidableEq κ] {k x : κ} {v : α} {r : List (κ × α)} (h : k ≠ x) : lk ((k, v) :: r) x = lk r x := by
  unfold lk; rw [List.find?_cons_of_neg (by simpa using h)]
theorem lk_self {κ α : Type} [DecidableEq κ] {k : κ} {v : α} {r : List (κ × α)} : lk ((k, v) :: r) k = some v := by
  unfold lk; rw [List.find?_cons_of_pos (by simp)]; rfl
theorem lk_lookup {α : Type} (kw : List (Str × α)) (n : Str) : kw.lookup n = lk kw n := by
  induction kw with
  | nil => rfl
  | cons p r ih =>
    obtain ⟨x, y⟩ := p
    by_cases q : n = x
    · subst q; rw [look_self, lk_self]
    · rw [look_cons q, lk_cons (Ne.symm q), ih]
theorem zip_lookup {α : Type} {names : List Str} : ∀ {xs : List α} {j : Nat} {n : Str}, names.Nodup → names[j]? = some n → (names.zip xs).lookup n = xs[j]? := by
  induction names with
  | nil => intro _ _ _ _ h; exact no h
  | cons m r ih =>
    intro xs j n hnd h
    cases xs with
    | nil => rfl
    | cons x xs =>
      cases j with
      | zero => cases h; exact look_self
      | succ j =>
        have h : r[j]? = some n := h
        have ne : n ≠ m := fun e => (List.nodup_cons.mp hnd).1 (e ▸ List.mem_of_getElem? h)
        exact (look_cons ne).trans (ih (List.nodup_cons.mp hnd).2 h)
theorem zip_lookup_none {α : Type} {names : List Str} : ∀ {xs : List α} {n : Str}, n ∉ names → (names.zip xs).lookup n = none := by
  induction names with
  | nil => intro _ _ _; rfl
  | cons m r ih =>
    intro xs n h
    cases xs with
    | nil => rfl
    | cons x xs =>
      have ne : n ≠ m := fun e => h (e ▸ List.mem_cons_self ..)
      exact (look_cons ne).trans (ih fun e => h (List.mem_cons_of_mem _ e))
theorem dfls_at {α : Type} {m j : Nat} {ds : List α} : ((dfls m ds)[j]?).join = if j < m - ds.length then none else ds[j - (m - ds.length)]? := by
  unfold dfls
  split
  · rename_i q
    rw [List.getElem?_append_left (by rw [List.length_replicate]; exact q), List.getElem?_replicate, if_pos q]; rfl
  · rename_i q
    rw [List.getElem?_append_right (by rw [List.length_replicate]; exact Nat.not_lt.mp q), List.length_replicate, List.getElem?_map]
    cases ds[j - (m - ds.length)]? <;> rfl
theorem nodup_at {l : List Str} {i j : Nat} {n : Str} (h : l.Nodup) (hi : l[i]? = some n) (hj : l[j]? = some n) : i = j := by
  obtain ⟨hi, ei⟩ := List.getElem?_eq_some_iff.mp hi
  obtain ⟨hj, ej⟩ := List.getElem?_eq_some_iff.mp hj
  rcases Nat.lt_trichotomy i j with q | q | q
  · exact absurd (ei.trans ej.symm) (List.pairwise_iff_getElem.mp h i j hi hj q)
  · exact q
  · exact absurd (ej.trans ei.symm) (List.pairwise_iff_getElem.mp h j i hj hi q)
theorem dfl_lookup {names : List Str} {ds : List Value} {j : Nat} {n : Str} (hnd : names.Nodup) (hj : names[j]? = some n) : ((names.drop (names.length - ds.length)).zip ds).lookup n = ((dfls names.length ds)[j]?).join := by
  rw [dfls_at]
  split
  · rename_i q
    refine zip_lookup_none fun hm => ?_
    obtain ⟨i, hi⟩ := List.mem_iff_getElem?.mp hm
    rw [List.getElem?_drop] at hi
    have := nodup_at hnd hj hi
    lia
  · rename_i q
    exact zip_lookup (hnd.sublist (List.drop_sublist _ _)) (by rw [List.getElem?_drop, show names.length - ds.length + (j - (names.length - ds.length)) = j by lia]; exact hj)
structure Bnd (names : List Str) (xs : List Value) (kw : List (Str × Value)) (ds ys : List Value) : Prop where
  nd : names.Nodup
  dl : ds.length ≤ names.length
  kn : ∀ p ∈ kw, p.1 ∈ names.drop xs.length
  knd : (kw.map (·.1)).Nodup
  b : bindP names xs kw (dfls names.length ds) = some ys
section
variable {names : List Str} {xs ds ys : List Value} {kw : List (Str × Value)} (B : Bnd names xs kw ds ys)
include B
theorem Bnd.len : xs.length ≤ names.length := (if_inv B.b).1
theorem Bnd.zipn {k : Str} {v : Value} (h : (k, v) ∈ kw) : (names.zip xs).lookup k = none := by
  obtain ⟨j, hj⟩ := List.mem_iff_getElem?.mp (B.kn _ h)
  rw [List.getElem?_drop] at hj
  rw [zip_lookup B.nd hj]
  exact List.getElem?_eq_none (Nat.le_add_right _ _)
theorem Bnd.once {k : Str} {v : Value} {done rest : List (Str × Value)} (h : kw = done ++ (k, v) :: rest) : ((names.zip xs ++ done).lookup k).isSome = false := by
  rw [List.lookup_append, B.zipn (by rw [h]; exact List.mem_append_right _ (List.mem_cons_self ..))]
  cases q : done.lookup k with
  | none => rfl
  | some y =>
    have := B.knd
    rw [h, List.map_append, List.map_cons] at this
    exact absurd rfl ((List.nodup_append.mp this).2.2 k (List.mem_map.mpr ⟨_, mem_lookup q, rfl⟩) k (List.mem_cons_self ..))
theorem Bnd.at_ {n : Str} {j : Nat} (hj : names[j]? = some n) : ((names.zip xs ++ kw).lookup n).or (((names.drop (names.length - ds.length)).zip ds).lookup n) = (xs[j]?).or ((lk kw n).or ((dfls names.length ds)[j]?).join) := by
  rw [List.lookup_append, zip_lookup B.nd hj, lk_lookup, Option.or_assoc, dfl_lookup B.nd hj]
theorem Bnd.zidx {n : Str} {j : Nat} (h : (n, j) ∈ names.zipIdx) : names[j]? = some n := by
  obtain ⟨_, h2, h3⟩ := List.mem_zipIdx h
  rw [h3]
  exact List.getElem?_eq_getElem _
theorem Bnd.miss : (names.take (names.length - ds.length)).filter (fun n => ((names.zip xs ++ kw).lookup n).isNone) = [] := by
  rw [List.filter_eq_nil_iff]
  intro n hn e
  obtain ⟨j, hj⟩ := List.mem_iff_getElem?.mp hn
  have hlt : j < names.length - ds.length := by
    have := (List.getElem?_eq_some_iff.mp hj).1
    rw [List.length_take] at this; exact Nat.lt_of_lt_of_le this (Nat.min_le_left ..)
  rw [List.getElem?_take_of_lt hlt] at hj
  obtain ⟨b, hb⟩ := mapO_some (if_inv B.b).2 (n, j) (List.mem_iff_getElem?.mpr ⟨j, by rw [List.getElem?_zipIdx, hj, Nat.zero_add]; rfl⟩)
  have hb : (xs[j]?).or ((lk kw n).or ((dfls names.length ds)[j]?).join) = some b := hb
  rw [← B.at_ hj, Option.isNone_iff_eq_none.mp e, dfl_lookup B.nd hj, dfls_at, if_pos hlt] at hb
  cases hb
theorem Bnd.fin {b : List (Str × Value)} (h : ∀ n, b.lookup n = ((names.zip xs ++ kw).lookup n).or (((names.drop (names.length - ds.length)).zip ds).lookup n)) : names.filterMap (fun n => (b.lookup n).map (n, ·)) = names.zip ys :=
  fm_zip names 0 ys (fun p hp => (h p.1).trans (B.at_ (B.zidx hp))) (if_inv B.b).2
end
theorem or_some {α : Type} {a b : Option α} (h : ¬ a.isNone = true) : a.or b = a := by
  cases a with
  | none => exact absurd rfl h
  | some => rfl
theorem look_one {α : Type} {k n : Str} {v : α} : [(k, v)].lookup n = if n = k then some v else none := by
  split
  · rename_i e; subst e; exact look_self
  · rename_i e; exact look_cons e
theorem wp_ifT {α : Type} {M : Model} {A : Around} {c : Prop} [Decidable c] {x y : Sem α} {Q : α → Shared → Prop} {E : Value → Shared → Prop} {s : Shared} (h : c) (H : wpAny M A x Q E s) : wpAny M A (if c then x else y) Q E s := by rw [if_pos h]; exact H
theorem wp_ifF {α : Type} {M : Model} {A : Around} {c : Prop} [Decidable c] {x y : Sem α} {Q : α → Shared → Prop} {E : Value → Shared → Prop} {s : Shared} (h : ¬ c) (H : wpAny M A y Q E s) : wpAny M A (if c then x else y) Q E s := by rw [if_neg h]; exact H
theorem Bnd.kwnew {names : List Str} {xs ds ys : List Value} {kw rest b : List (Str × Value)} {kv : Str × Value} (B : Bnd names xs kw ds ys) (h : b ++ kv :: rest = names.zip xs ++ kw) (hl : (names.zip xs).length ≤ b.length) : (names.contains kv.1 || ([] : List Str).contains kv.1) = true ∧ ¬ (b.lookup kv.1).isSome = true := by
  obtain ⟨done, hd⟩ : ∃ done, b = names.zip xs ++ done := by
    obtain ⟨t, ht⟩ := List.prefix_of_prefix_length_le (List.prefix_append ..) (h ▸ List.prefix_append b (kv :: rest)) hl
    exact ⟨t, ht.symm⟩
  subst hd
  rw [List.append_assoc] at h
  have h := (List.append_cancel_left h).symm
  obtain ⟨k, v⟩ := kv
  exact ⟨by rw [List.contains_iff_mem.mpr (List.mem_of_mem_drop (B.kn (k, v) (by rw [h]; exact List.mem_append_right _ (List.mem_cons_self ..))))]; rfl, by rw [B.once h]; exact Bool.false_ne_true⟩
structure DfSt (s : Shared) (D z rest b : List (Str × Value)) (s' : Shared) : Prop where
  s : s' = s
  at_ : ∀ n, (b.lookup n).or (rest.lookup n) = (z.lookup n).or (D.lookup n)
theorem DfSt.next {s s' : Shared} {D z rest b : List (Str × Value)} {kv : Str × Value} (h : DfSt s D z (kv :: rest) b s') : ((b.lookup kv.1).isNone = true → DfSt s D z rest (b ++ [kv]) s') ∧ (¬ (b.lookup kv.1).isNone = true → DfSt s D z rest b s') := by
  obtain ⟨k, v⟩ := kv
  refine ⟨fun q => ⟨h.s, fun n => ?_⟩, fun q => ⟨h.s, fun n => ?_⟩⟩
  · rw [← h.at_ n, List.lookup_append, Option.or_assoc]
    congr 1
    rw [look_one]
    split
    · rename_i e; subst e; rw [look_self]; rfl
    · rename_i e; rw [look_cons e]; rfl
  · rw [← h.at_ n]
    by_cases e : n = k
    · subst e
      rw [or_some q, or_some q]
    · rw [look_cons e]
theorem bindArgs_to {s : Shared} {fd : FuncData} {names : List Str} {xs ys ds : List Value} {kw : List (Str × Value)} (h1 : fd.params.posonlyargs = []) (h2 : fd.params.kwonlyargs = []) (h3 : fd.params.vararg = none) (h4 : fd.params.kwarg = none)
    (hnames : fd.params.args.map (·.arg) = names)
    (hdef : ∀ (M : Model) (A : Around) (E : Value → Shared → Prop) (Q : Option (Array Value) → Shared → Prop), (∀ r : Option (Array Value), (r.getD #[]).toList = ds → Q r s) → wpAny M A (seqItems? fd.defaults) Q E s)
    (B : Bnd names xs kw ds ys) : BindsTo s fd ⟨xs, kw⟩ (names.zip ys) := by
  rcases fd with ⟨_, _, ⟨po, ag, va, ko, kd, ka, df⟩⟩
  cases h1; cases h2; cases h3; cases h4
  subst hnames
  replace hdef : ∀ s1, s1 = s → ∀ (M : Model) (A : Around) (E : Value → Shared → Prop) (Q : Option (Array Value) → Shared → Prop), (∀ r : Option (Array Value), (r.getD #[]).toList = ds → Q r s1) → wpAny M A (seqItems? _) Q E s1 := fun _ e => e ▸ hdef
  have hlen : ¬ (decide ((ag.map (·.arg)).length < xs.length) && true) = true := by rw [decide_eq_false (Nat.not_lt.mpr B.len)]; exact Bool.false_ne_true
  have hdr : (ds.drop (ds.length - (ag.map (·.arg)).length)) = ds := by rw [Nat.sub_eq_zero_of_le B.dl]; rfl
  intro M A E Q hQ
  refine wpAny_bind (wpAny_forIn_list _ (fun rest b s1 => s1 = s ∧ b.1 ++ rest = (ag.map (·.arg)).zip xs ++ kw ∧ ((ag.map (·.arg)).zip xs).length ≤ b.1.length) _ ?_ (fun b s1 h => ?_) kw _ ⟨rfl, rfl, Nat.le_refl _⟩)
  · exact fun kv rest b s1 h => wp_ifT (B.kwnew h.2.1 h.2.2).1 (wp_ifF (B.kwnew h.2.1 h.2.2).2 (wpAny_pure ⟨h.1, (List.append_assoc ..).trans h.2.1, Nat.le_trans h.2.2 (by rw [List.length_append]; exact Nat.le_add_right ..)⟩))
  have hb : b.1 = (ag.map (·.arg)).zip xs ++ kw := (List.append_nil _).symm.trans h.2.1
  have hs := h.1
  clear h
  refine wpAny_bind (hdef s1 hs M A E _ fun r hr => wp_ifF hlen (wp_ifF ?_ (wpAny_bind (wpAny_forIn_list _ (DfSt s (((ag.map (·.arg)).drop ((ag.map (·.arg)).length - ds.length)).zip ds) ((ag.map (·.arg)).zip xs ++ kw)) _ ?_ (fun b s2 h => wpAny_pure ?_) _ _ ?_))))
  · show ¬ (!((List.take ((ag.map (·.arg)).length - (((r.getD #[]).toList).drop (((r.getD #[]).toList).length - (ag.map (·.arg)).length)).length) (ag.map (·.arg))).filter fun n => (b.1.lookup n).isNone).isEmpty) = true
    rw [hr, hdr, hb, B.miss]; exact Bool.false_ne_true
  · exact fun kv rest b s2 h => if q : (b.lookup kv.1).isNone = true then wp_ifT q (wpAny_pure (h.next.1 q)) else wp_ifF q (wpAny_pure (h.next.2 q))
  · show Q (((ag.map (fun a : Arg => a.arg)) ++ ([] : List Str)).filterMap fun n => (b.lookup n).map (n, ·)) s2
    rw [List.append_nil, B.fin fun n => (Option.or_none ..).symm.trans (h.at_ n), h.s]
    exact hQ
  · show DfSt s _ _ (((ag.map (·.arg)).drop ((ag.map (·.arg)).length - (((r.getD #[]).toList).drop (((r.getD #[]).toList).length - (ag.map (·.arg)).length)).length)).zip (((r.getD #[]).toList).drop (((r.getD #[]).toList).length - (ag.map (·.arg)).length))) _ _
    rw [hr, hdr]
    exact ⟨hs, fun n => by rw [hb]⟩
theorem lk_map {α : Type} {kn : List String} {kvs : List α} {p : String} : lk ((kn.map Str.ofString).zip kvs) (Str.ofString p) = lk (kn.zip kvs) p := by
  induction kn generalizing kvs with
  | nil => rfl
  | cons k r ih =>
    cases kvs with
    | nil => rfl
    | cons v vs =>
      by_cases q : k = p
      · subst q; exact lk_self.trans lk_self.symm
      · exact (lk_cons fun e => q (ofString_inj e)).trans (ih.trans (lk_cons q).symm)
section
variable {G : Gl} {w : Wd}
inductive VRo (G : Gl) (w : Wd) : Option V → Option Value → Prop
  | none : VRo G w none none
  | some {v : V} {x : Value} : VR G w v x → VRo G w (some v) (some x)
theorem VRo.or {a b : Option V} {x y : Option Value} (h : VRo G w a x) (k : VRo G w b y) : VRo G w (a.or b) (x.or y) := by
  cases h with
  | none => exact k
  | some h => exact .some h
theorem VRo.of {v : V} {x : Option Value} (h : VRo G w (Option.some v) x) : ∃ y, x = Option.some y ∧ VR G w v y := by cases h with | some h => exact ⟨_, rfl, h⟩
theorem VRs.opt {vs : List V} {xs : List Value} (h : VRs G w vs xs) : ∀ j : Nat, VRo G w vs[j]? xs[j]? := by
  induction h with
  | nil => intro j; exact .none
  | cons a _ ih => intro j; cases j with
    | zero => exact .some a
    | succ j => exact ih j
theorem zip_opt {p : String} {kvs : List V} {ys : List Value} (h : VRs G w kvs ys) : ∀ kn : List String, VRo G w (lk (kn.zip kvs) p) (lk (kn.zip ys) p) := by
  induction h with
  | nil => intro kn; rw [List.zip_nil_right, List.zip_nil_right]; exact .none
  | cons a _ ih =>
    intro kn
    cases kn with
    | nil => exact .none
    | cons k r =>
      rw [List.zip_cons_cons, List.zip_cons_cons]
      by_cases q : k = p
      · subst q; rw [lk_self, lk_self]; exact .some a
      · rw [lk_cons q, lk_cons q]; exact ih r
theorem dfls_opt {ds : List V} {xs : List Value} (h : VRs G w ds xs) (m j : Nat) : VRo G w ((dfls m ds)[j]?).join ((dfls m xs)[j]?).join := by
  rw [dfls_at, dfls_at, ← All2.length h]
  split
  · exact .none
  · exact VRs.opt h _
theorem bindP_sound {ps : List String} {args kvs ds vs : List V} {kn : List String} {xs ys dv : List Value} (ha : VRs G w args xs) (hk : VRs G w kvs ys) (hd : VRs G w ds dv) (hb : bindP ps args (kn.zip kvs) (dfls ps.length ds) = some vs) :
    ∃ zs, bindP (ps.map Str.ofString) xs ((kn.map Str.ofString).zip ys) (dfls (ps.map Str.ofString).length dv) = some zs ∧ VRs G w vs zs := by
  obtain ⟨hl, hb⟩ := if_inv hb
  have key : ∀ (qs : List String) (k : Nat) (us : List V), mapO (fun pj : String × Nat => (args[pj.2]?).or ((lk (kn.zip kvs) pj.1).or (((dfls ps.length ds)[pj.2]?).join))) (qs.zipIdx k) = some us →
      ∃ zs, mapO (fun pj : Str × Nat => (xs[pj.2]?).or ((lk ((kn.map Str.ofString).zip ys) pj.1).or (((dfls ps.length dv)[pj.2]?).join))) ((qs.map Str.ofString).zipIdx k) = some zs ∧ VRs G w us zs := by
    intro qs
    induction qs with
    | nil => intro k us h; cases h; exact ⟨[], rfl, .nil⟩
    | cons q r ih =>
      intro k us h
      obtain ⟨b, h1, h⟩ := onO_inv h
      obtain ⟨bs, h2, h⟩ := onO_inv h
      cases h
      obtain ⟨zs, e1, e2⟩ := ih (k + 1) bs h2
      have hv := (VRs.opt ha k).or ((zip_opt (p := q) hk kn).or (dfls_opt hd ps.length k))
      rw [show (args[k]?).or ((lk (kn.zip kvs) q).or (((dfls ps.length ds)[k]?).join)) = some b from h1] at hv
      obtain ⟨y, e3, e4⟩ := hv.of
      refine ⟨y :: zs, ?_, .cons e4 e2⟩
      show onO ((xs[k]?).or ((lk ((kn.map Str.ofString).zip ys) (Str.ofString q)).or (((dfls ps.length dv)[k]?).join))) (fun b => onO (mapO _ ((r.map Str.ofString).zipIdx (k + 1))) fun bs => some (b :: bs)) = _
      rw [lk_map, e3, e1]; rfl
  obtain ⟨zs, e1, e2⟩ := key ps 0 vs hb
  unfold bindP
  rw [List.length_map]
  exact ⟨zs, (if_pos (All2.length ha ▸ hl)).trans e1, e2⟩
theorem zip_fst {kvs : List V} {ys : List Value} (h : VRs G w kvs ys) : ∀ kn : List String, ((kn.map Str.ofString).zip ys).map (·.1) = ((kn.zip kvs).map (·.1)).map Str.ofString := by
  induction h with
  | nil => intro kn; rw [List.zip_nil_right, List.zip_nil_right]; rfl
  | cons _ _ ih => intro kn; cases kn with
    | nil => rfl
    | cons k r => exact congrArg (List.cons _) (ih r)
theorem nodup_str {l : List String} (h : l.Nodup) : (l.map Str.ofString).Nodup := h.map _ fun _ _ hab e => hab (ofString_inj e)
theorem binds_of {fn : Fn} {args kvs vs : List V} {kn : List String} {xs ys dv : List Value} (hn : fn.params.Nodup) (hdl : fn.defaults.length ≤ fn.params.length) (ha : VRs G w args xs) (hk : VRs G w kvs ys) (hd : VRs G w fn.defaults dv) (hkw : kwOk fn args (kn.zip kvs) = true) (hb : bindP fn.params args (kn.zip kvs) fn.dflts = some vs) :
    ∃ zs, Bnd (fn.params.map Str.ofString) xs ((kn.map Str.ofString).zip ys) dv zs ∧ VRs G w vs zs := by
  obtain ⟨zs, e1, e2⟩ := bindP_sound ha hk hd hb
  obtain ⟨k1, k2⟩ := Bool.and_eq_true_iff.mp hkw
  refine ⟨zs, ⟨nodup_str hn, by rw [← All2.length hd, List.length_map]; exact hdl, fun p hp => ?_, by rw [zip_fst hk]; exact nodup_str (of_decide_eq_true k2), e1⟩, e2⟩
  have hm : p.1 ∈ ((kn.map Str.ofString).zip ys).map (·.1) := List.mem_map.mpr ⟨p, hp, rfl⟩
  rw [zip_fst hk] at hm
  obtain ⟨q, hq, e⟩ := List.mem_map.mp hm
  obtain ⟨z, hz, rfl⟩ := List.mem_map.mp hq
  rw [← e, ← List.map_drop, ← All2.length ha]
  exact List.mem_map.mpr ⟨_, List.contains_iff_mem.mp (List.all_eq_true.mp k1 z hz), rfl⟩
end
end Lw
namespace Lw
open PySem PySem.W PySem.Calls PyProof.Rows
section
variable {kindOf : Str → Option NameKind} {m : Str → Option Value} {x : Str}
theorem bindL_look {names : List Str} : ∀ {ys : List Value} {m : Str → Option Value}, names.Nodup → kindOf x = some .local → bindL kindOf (names.zip ys) m x = ((names.zip ys).lookup x).or (m x) := by
  induction names with
  | nil => intro _ m _ _; rfl
  | cons n r ih =>
    intro ys m hnd hk
    cases ys with
    | nil => rfl
    | cons y ys =>
      rw [List.zip_cons_cons, bindL, ih (List.nodup_cons.mp hnd).2 hk]
      by_cases q : x = n
      · subst q; rw [zip_lookup_none (List.nodup_cons.mp hnd).1, look_self]; simp [hk]
      · rw [look_cons q]; by_cases hk : kindOf n = some .local <;> simp [hk, q]
theorem bindC_look {names : List Str} : ∀ {ys : List Value} {m : Str → Option Value}, names.Nodup → kindOf x ≠ some .local → bindC kindOf (names.zip ys) m x = ((names.zip ys).lookup x).or (m x) := by
  induction names with
  | nil => intro _ m _ _; rfl
  | cons n r ih =>
    intro ys m hnd hk
    cases ys with
    | nil => rfl
    | cons y ys =>
      rw [List.zip_cons_cons, bindC, ih (List.nodup_cons.mp hnd).2 hk]
      by_cases q : x = n
      · subst q; rw [zip_lookup_none (List.nodup_cons.mp hnd).1, look_self]; simp [hk]
      · rw [look_cons q]; by_cases hk : kindOf n = some .local <;> simp [hk, q]
theorem cellsFrom_keep : ∀ (names : List (Str × NameKind)) (k : Nat) (acc : List (Str × Addr)), (∃ a, acc.lookup x = some a) → ∃ a, (cellsFrom k names acc).lookup x = some a := by
  intro names
  induction names with
  | nil => intro _ _ h; exact h
  | cons p r ih =>
    intro k acc h
    obtain ⟨n, kd⟩ := p
    unfold cellsFrom
    split
    · refine ih _ _ ?_
      by_cases q : x = n
      · subst q; exact ⟨_, look_self⟩
      · rw [look_cons q]; exact h
    · exact ih k acc h
theorem cellsFrom_has : ∀ (names : List (Str × NameKind)) (k : Nat) (acc : List (Str × Addr)), names.lookup x = some .cell → ∃ a, (cellsFrom k names acc).lookup x = some a := by
  intro names
  induction names with
  | nil => intro _ _ h; exact no h
  | cons p r ih =>
    intro k acc h
    obtain ⟨n, kd⟩ := p
    unfold cellsFrom
    by_cases q : x = n
    · subst q
      rw [look_self] at h
      cases h
      exact cellsFrom_keep r _ _ ⟨_, look_self⟩
    · rw [look_cons q] at h
      split <;> exact ih _ _ h
end
structure AOC (A : Around) (n : Nat) (hd : Bool) (w : Wd) (envs : List Env) : Prop where
  handled : hd = false → A.handled = none
  depth : A.depth + 4 * n + 2 < 1000
  units : A.units + 100 * n + 150 < 9900
  frs : ∀ env ∈ envs, env.scope.kind = .function ∧ ∃ L o, env.frame = some L ∧ w.m L = some (.fr o)
structure PtC (G : Gl) (n : Nat) where
  hd : Bool
  w : Wd
  σ : St
  envs : List Env
  A : Around
  s : Shared
  B : Base G w
  S : SR G w σ s.heap
  hA : AOC A n hd w envs
  fr : A.frames = some envs
noncomputable def RC (G : Gl) (w : Wd) (s : Shared) (envs : List Env) (r : Res V) (σ' : St) : Result → Shared → Prop
  | .ok (.ret v), s' => QV G (VR G) w s r σ' v s'
  | .ok _, _ => False
  | .error e, s' => QX G w s envs r σ' e s'
noncomputable def SimC (G : Gl) (n : Nat) (cc m : String) (a : Addr) : Prop := ∀ (Z : PtC G n) (args kvs : List V) (kn : List String) (xs ys : List Value) (r : Res V) (σ' : St), run G.P n Z.hd cc m args (kn.zip kvs) Z.σ = some (r, σ') → VRs G Z.w args xs → VRs G Z.w kvs ys →
  codeAny G.M Z.A (.call (.ref a) ⟨xs, (kn.map Str.ofString).zip ys⟩) (RC G Z.w Z.s Z.envs r σ') Z.s
noncomputable def Pt.toC {G : Gl} {n : Nat} {cx : Cxt} (X : Pt G n cx) : PtC G n := ⟨X.hd, X.w, X.σ, X.envs, X.A, X.s, X.B, X.S, ⟨X.hA.handled, Nat.lt_of_le_of_lt (Nat.add_le_add_left (by decide) _) X.hA.depth, Nat.lt_of_le_of_lt (Nat.add_le_add_left (by decide) _) X.hA.units, X.hA.frs⟩, X.fr⟩
structure FnFacts (G : Gl) (fn : Fn) (a : Addr) (fd : FuncData) (body : List Stmt) (cx : Cxt) : Prop where
  look : ∃ oc od sl, G.K.lookup a = some ⟨oc, od, .func fd, sl⟩
  body : fd.body = .stmts body
  code : codeIn G.K fd.code fd.qualname = true
  kind : fd.scope.kind = .function
  coro : fd.scope.isCoroutine = false
  gen : fd.scope.isGenerator = false
  clos : fd.closure = []
  glob : fd.globals = mainGlobals
  bi : fd.builtins = builtinsNs
  p1 : fd.params.posonlyargs = []
  p2 : fd.params.kwonlyargs = []
  p3 : fd.params.vararg = none
  p4 : fd.params.kwarg = none
  names : fd.params.args.map (·.arg) = fn.params.map Str.ofString
  nodup : fn.params.Nodup
  dlen : fn.defaults.length ≤ fn.params.length
  dfl : (fd.defaults = .none ∧ fn.defaults = []) ∨ ∃ T o its k, fd.defaults = .ref T ∧ G.K.lookup T = some o ∧ o.data = .seq its k ∧ ∀ w, VRs G w fn.defaults its.toList
  scope : cx.scope = fd.scope
  cls : cx.cls = G.com.cls
  attrs : cx.attrs = G.com.attrs
  pars : ∀ j p, fn.params[j]? = some p → cx.vis.lookup (Str.ofString p) = some j
  vis : VisOK cx.vis
  kinds : ∀ p ∈ fn.params, fd.scope.names.lookup (Str.ofString p) = some .local ∨ fd.scope.names.lookup (Str.ofString p) = some .cell
section
variable {G : Gl} {n : Nat} {cx : Cxt} {w w' w₀ : Wd} {s s' s₀ s₁ : Shared} {σ σ' : St} {ρ ρ' : Rho} {env : Env} {envs : List Env} {fn : Fn} {a : Addr} {fd : FuncData} {body : List Stmt} {h h' : Heap}
theorem get_above (e : h.objs.size ≤ a) : h.get? a = none := by
  cases q : h.get? a with
  | none => rfl
  | some o => exact absurd (Heap.lt_size q) (Nat.not_lt.mpr e)
noncomputable def Wd.frame (w : Wd) (h : Heap) (env : Env) : Wd := { w with m := fun a => open Classical in if owns env a then (h.get? a).map .fr else w.m a }
theorem Wd.frame_own {o : Obj} (q : owns env a) (e : h.get? a = some o) : (w.frame h env).m a = some (.fr o) := (if_pos q).trans (congrArg (Option.map _) e)
theorem Wd.frame_ne (q : ¬ owns env a) : (w.frame h env).m a = w.m a := if_neg q
theorem SR.frame (S : SR G w σ h) (hn : ∀ a, owns env a → h.get? a = none) (hf : ∀ a, owns env a → ∃ o, h'.get? a = some o ∧ ∀ vs, o.data ≠ .fields vs) (k : ∀ b o, h.get? b = some o → h'.get? b = some o) : SR G (w.frame h' env) σ h' ∧ w.Le (w.frame h' env) := by
  have ne : ∀ {a x}, w.m a = some x → ¬ owns env a := fun e q => by rw [S.fresh (hn _ q)] at e; cases e
  have le : w.Le (w.frame h' env) := ⟨fun a x e => (Wd.frame_ne (ne e)).trans e, List.prefix_refl _⟩
  refine ⟨⟨fun b o e => ?_, S.n, fun i o e => ?_⟩, le⟩
  · by_cases q : owns env b
    · obtain ⟨y, e1, e2⟩ := hf b q
      rw [Wd.frame_own q e1] at e; cases e
      exact ⟨e2, y.slots, e1⟩
    · rw [Wd.frame_ne q] at e; exact (S.m b o e).keep fun _ z => k _ _ z
  · obtain ⟨p, z, r⟩ := S.obj i o e
    obtain ⟨⟨_, _, m1⟩, _, _, m2⟩ := r.held
    exact ⟨p, z, r.keep le.sub (Wd.frame_ne (ne m1)) (Wd.frame_ne (ne m2)) fun b y _ => k b y⟩
theorem ObjNs.nofields {o : Obj} {m : Str → Option Value} (h : ObjNs o m) : ∀ vs, o.data ≠ .fields vs := let ⟨_, _, e, _⟩ := h; fun vs z => by rw [e] at z; cases z
theorem par_at {vs : List V} {zs : List Value} {y : Str} {k : Nat} {v : V} (H : FnFacts G fn a fd body cx) (hv : VRs G w vs zs) (hl : fn.params.length = zs.length) (e1 : cx.vis.lookup y = some k) (e2 : rhoOf vs k = some v) :
    ∃ p z, p ∈ fn.params ∧ y = Str.ofString p ∧ ((fn.params.map Str.ofString).zip zs).lookup y = some z ∧ VR G w v z := by
  obtain ⟨z, hz, hvz⟩ := All2.get hv e2
  have hk : k < fn.params.length := hl ▸ (List.getElem?_eq_some_iff.mp hz).1
  have hp : fn.params[k]? = some fn.params[k] := List.getElem?_eq_getElem hk
  have hy := H.vis y _ k e1 (H.pars k _ hp)
  exact ⟨_, z, List.mem_of_getElem? hp, hy, (zip_lookup (nodup_str H.nodup) (by rw [List.getElem?_map, hp, hy]; rfl)).trans hz, hvz⟩
theorem frame_made {vs : List V} {zs : List Value} {q : Str} {f : Option Addr} {cd : Value} (Z : PtC G (n + 1)) (H : FnFacts G fn a fd body cx) (hv : VRs G Z.w vs zs) (hlen : fn.params.length = zs.length)
    (he : env = newEnv fd.scope Z.s.heap.objs.size fd.globals (cellsFrom (Z.s.heap.objs.size + 1) fd.scope.names []) q f cd none fd.builtins)
    (x : InCallC Z.s env.locals (bindL env.kindOf ((fn.params.map Str.ofString).zip zs) fun _ => none) env.cells (bindC env.kindOf ((fn.params.map Str.ofString).zip zs) fun _ => none) s₁) :
    ∃ Y : PtS G n cx, (Y.hd = Z.hd ∧ Y.dr = true) ∧ Y.w₀ = Z.w ∧ Y.ρ = rhoOf vs ∧ Y.σ = Z.σ ∧ Y.env = env ∧ Y.envs = Z.envs ∧ Y.A = Z.A.deeper env ∧ Y.s = s₁ := by
  have hloc : env.locals = Z.s.heap.objs.size := by rw [he]; rfl
  have hsc : env.scope = fd.scope := by rw [he]; rfl
  have hcl : env.cells = cellsFrom (Z.s.heap.objs.size + 1) fd.scope.names [] := by rw [he]; rfl
  have hout : ∀ b, owns env b → Z.s.heap.get? b = none := fun b q => q.elim (fun e => by rw [e, hloc]; exact get_size _) fun ⟨m, e⟩ => get_above (Nat.le_of_lt (hloc ▸ x.above m b (mem_lookup e)))
  obtain ⟨o, ho, hN⟩ := ObjNs.of x.toInCall.ns
  obtain ⟨S, le⟩ := Z.S.frame hout (fun b q => q.elim (fun e => ⟨o, e ▸ ho, hN.nofields⟩) fun ⟨m, e⟩ => let ⟨ob, h1, h2⟩ := x.cell m b e; ⟨ob, h1, fun vs z => by rw [h2] at z; cases z⟩) x.toInCall.keep
  refine ⟨⟨Z.hd, true, Z.w, Z.w.frame s₁.heap env, rhoOf vs, Z.σ, env, Z.envs, Z.A.deeper env, s₁, Z.B, le, S, ⟨by rw [hsc]; exact H.kind, by rw [he]; exact H.glob, by rw [he]; exact H.bi, ⟨o, _, Wd.frame_own (.inl rfl) ho, hN, fun y k v e1 e2 e3 => ?_⟩, fun y k v e1 e2 e3 => ?_⟩, ⟨by rw [he]; rfl, Z.S.fresh (hout _ (.inl rfl)), fun y b e => Z.S.fresh (hout b (.inr ⟨y, e⟩)), fun y b e => ?_, fun y z b e1 e2 => name_of_addr x.apart (mem_lookup e1) (mem_lookup e2)⟩, ⟨by rw [hsc, H.scope], H.cls, H.attrs, fun y e => ?_⟩, ⟨Z.hA.handled, ?_, ?_, Z.hA.frs⟩, ?_⟩, ⟨rfl, rfl⟩, rfl, rfl, rfl, rfl, rfl, rfl, rfl⟩
  · obtain ⟨p, z, hp, rfl, hz, hvz⟩ := par_at H hv hlen e1 e3
    exact ⟨z, by rw [bindL_look (nodup_str H.nodup) e2, hz]; rfl, hvz.mono le.sub⟩
  · obtain ⟨p, z, hp, rfl, hz, hvz⟩ := par_at H hv hlen e1 e3
    rw [hsc] at e2
    have e2 : fd.scope.names.lookup (Str.ofString p) = some .cell := (H.kinds p hp).elim (fun q => by rw [q] at e2; rcases e2 with e2 | e2 <;> cases e2) id
    obtain ⟨b, hb⟩ := cellsFrom_has _ (Z.s.heap.objs.size + 1) [] e2
    rw [← hcl] at hb
    obtain ⟨ob, h1, h2⟩ := x.cell _ b hb
    refine ⟨b, ob, z, hb, Wd.frame_own (.inr ⟨_, hb⟩) h1, ?_, hvz.mono le.sub⟩
    rw [h2, bindC_look (nodup_str H.nodup) (fun q => by rw [show env.kindOf _ = fd.scope.names.lookup _ from congrArg (fun s : Scope => s.names.lookup _) hsc, e2] at q; cases q), hz]; rfl
  · obtain ⟨ob, h1, h2⟩ := x.cell y b e
    exact ⟨ob, _, Wd.frame_own (.inr ⟨_, e⟩) h1, h2⟩
  · rw [hcl]
    obtain ⟨b, hb⟩ := cellsFrom_has _ (Z.s.heap.objs.size + 1) [] (H.scope ▸ e)
    exact Option.isSome_iff_exists.mpr ⟨b, hb⟩
  · show Z.A.depth + 1 + 4 * n + 4 < 1000
    have := Z.hA.depth; lia
  · show Z.A.units + 3 + 100 * n + 200 < 9900
    have := Z.hA.units; lia
  · show Z.A.frames.map (env :: ·) = _
    rw [Z.fr]; rfl
theorem SR.fly {Bh : Heap} (S : SR G w σ h) (hB : ∀ b o y, w.m b = some o → (∀ z, o ≠ .fr z) → h.get? b = some y → Bh.get? b = some y) (hs : Bh.StaysIn h') (hu : h.UpToSlots h') : SR G w σ h' := by
  refine ⟨fun b o e => ?_, S.n, fun i o e => ?_⟩
  · have k := S.m b o e
    cases o with
    | fr o => obtain ⟨hd, sl, q⟩ := k; obtain ⟨sl', q'⟩ := hu _ _ q hd; exact ⟨hd, sl', q'⟩
    | _ => exact k.keep fun y q => hs _ _ (hB b _ y e (fun z q => nomatch q) q)
  · obtain ⟨p, z, r⟩ := S.obj i o e
    obtain ⟨⟨_, _, m1⟩, _, _, m2⟩ := r.held
    exact ⟨p, z, r.keep (Wd.Le.refl _).sub rfl rfl fun b y hb q => hs _ _ (hb.elim (fun e => hB b _ y (e ▸ m1) lkOwn_nofr q) fun e => hB b _ y (e ▸ m2) lkOwn_nofr q)⟩
theorem XP.leave {x : String} {e : Value} {A : Around} {Ex : Value → Shared → Prop} {R : Value → Shared → Prop} (hfr : A.frames = some (env :: envs)) (hf : env.frame = some env.locals) (q : XP G w s (env :: envs) x σ' e s') (hR : ∀ s'', XP G w s envs x σ' e s'' → R e s'') : wpAny G.M A (leaving env e) (fun _ s'' => R e s'') Ex s' := by
  obtain ⟨ea, C, a0, B, w₂, rfl, hC, p, hfl, hB⟩ := q
  refine wpAny_leaves_onW hfr hf hfl fun h' hfl' hup => hR _ ⟨ea, C, a0, B, w₂, rfl, hC, ⟨p.hs.trans (.of _ _ s'.toks), p.hw, p.S.fly hB hfl'.1 hup⟩, hfl', fun b o y e1 e2 e3 => ?_⟩
  obtain ⟨y0, e4⟩ := (p.S.m b o e1).some
  have e5 := hB b o y0 e1 e2 e4
  have e6 := hfl'.1 _ _ e5
  have e3 : h'.get? b = some y := e3
  rw [e6] at e3; cases e3; exact e5
theorem funs_of (hfrs : ∀ e ∈ envs, e.scope.kind = .function ∧ ∃ L o, e.frame = some L ∧ w.m L = some (.fr o)) (S : SR G w σ h) {as : List Addr} (hin : ∀ e ∈ envs, ∀ a, e.frame = some a → a ∈ as) : h.FunFrames (hideAll h as) envs := by
  induction envs with
  | nil => trivial
  | cons e r ih =>
    obtain ⟨hk, L, o, hf, hm⟩ := hfrs e (.head _)
    obtain ⟨hd, sl, q⟩ := S.m _ _ hm
    exact ⟨(fun z => by rw [hk] at z; cases z), ⟨L, _, hf, hideAll_none _ (hin e (.head _) L hf), q, hd⟩, ih (fun e he => hfrs e (.tail _ he)) fun e he => hin e (.tail _ he)⟩
theorem XM.leave {x : String} {e : Value} {A : Around} {Ex : Value → Shared → Prop} {R : Value → Shared → Prop} (hfr : A.frames = some (env :: envs)) (hf : env.frame = some env.locals)
    (hfrs : ∀ e ∈ env :: envs, e.scope.kind = .function ∧ ∃ L o, e.frame = some L ∧ w.m L = some (.fr o)) (q : XM G w s x σ' e s') (hR : ∀ s'', XP G w s envs x σ' e s'' → R e s'') : wpAny G.M A (leaving env e) (fun _ s'' => R e s'') Ex s' := by
  obtain ⟨ea, C, args, h, rfl, hC, hs, S, hx⟩ := q
  have hB : ∀ b o y, w.m b = some o → (∀ z, o ≠ .fr z) → h.get? b = some y → (hideAll h ((env :: envs).filterMap (·.frame))).get? b = some y := fun b o y e1 e2 e3 => hideAll_get _ e3 fun hm => by
    obtain ⟨e, he, hf⟩ := List.mem_filterMap.mp hm
    obtain ⟨_, L, o', hf', q⟩ := hfrs e he
    rw [hf] at hf'; cases hf'
    rw [e1] at q; exact e2 o' (Option.some.inj q)
  refine wpAny_leaves_madeW hfr hf (fun b o q => of_hideAll _ q) (funs_of hfrs S fun e he a ha => List.mem_filterMap.mpr ⟨e, he, ha⟩) hx fun h' t x1 _ _ x4 => hR _ ⟨ea, C, .ref t, _, w, rfl, hC, ⟨hs.trans (.of _ _ s'.toks), .refl _, S.fly hB x1.1 ((Heap.UpToSlots.of_keeps hx.keeps).trans x4)⟩, x1, fun b o y e1 e2 e3 => ?_⟩
  obtain ⟨y0, e4⟩ := (S.m b o e1).some
  have e5 := hB b o y0 e1 e2 e4
  have e6 := x1.1 _ _ e5
  have e3 : h'.get? b = some y := e3
  rw [e6] at e3; cases e3; exact e5
theorem defaults_at (H : FnFacts G fn a fd body cx) (X : G.K.In s.heap) : ∃ ds, (∀ w, VRs G w fn.defaults ds) ∧
    ∀ (M : Model) (A : Around) (E : Value → Shared → Prop) (Q : Option (Array Value) → Shared → Prop), (∀ r : Option (Array Value), (r.getD #[]).toList = ds → Q r s) → wpAny M A (seqItems? fd.defaults) Q E s := by
  rcases H.dfl with ⟨e1, e2⟩ | ⟨T, o, its, k, e1, e2, e3, e4⟩
  · refine ⟨[], fun w => by rw [e2]; exact .nil, fun M A E Q hQ => ?_⟩
    rw [e1]
    exact wpAny_pure (hQ none rfl)
  · refine ⟨its.toList, e4, fun M A E Q hQ => ?_⟩
    rw [e1]
    refine wpAny_bind (wpAny_loadPart (X _ _ e2) ?_)
    rw [e3]
    exact wpAny_pure (hQ (some its) rfl)
theorem fin_next {r : Res V} (h : fin (some (.next, ρ, σ)) = some (r, σ')) : r = .ok .none ∧ σ' = σ := by cases h; exact ⟨rfl, rfl⟩
theorem fin_ret {v : V} {r : Res V} (h : fin (some (.ret v, ρ, σ)) = some (r, σ')) : r = .ok v ∧ σ' = σ := by cases h; exact ⟨rfl, rfl⟩
theorem fin_exc {x : String} {r : Res V} (h : fin (some (.exc x, ρ, σ)) = some (r, σ')) : r = .exc x ∧ σ' = σ := by cases h; exact ⟨rfl, rfl⟩
theorem body_sound {r : Res V} (hb : SimSs G n cx fn.body body) (Y : PtS G n cx) (Z : PtC G (n + 1)) (hs : Same Z.s Y.s) (hA : Y.A = Z.A.deeper Y.env) (hw : Y.w₀ = Z.w) (hen : Y.envs = Z.envs) (hev : fin (Y.execs fn.body) = some (r, σ')) :
    codeAny G.M Z.A (.func body Y.env) (RC G Z.w Z.s Z.envs r σ') Y.s := by
  refine codeAny_func ?_
  rw [← hA, ← hw, ← hen]
  cases hx : Y.execs fn.body with
  | none => rw [hx] at hev; exact no hev
  | some q =>
    obtain ⟨fl, ρ₁, σ₁⟩ := q
    rw [hx] at hev
    refine wpAny_mono (hb Y fl ρ₁ σ₁ hx) (fun f s₂ q => ?_) fun e s₂ q => ?_
    · cases fl with
      | next =>
        obtain ⟨rfl, w₂, p⟩ := q
        obtain ⟨rfl, rfl⟩ := fin_next hev
        exact ⟨w₂, ⟨hs.trans p.hs, p.le, p.S⟩, .none⟩
      | ret v =>
        obtain ⟨y, w₂, rfl, p, hv⟩ := q
        obtain ⟨rfl, rfl⟩ := fin_ret hev
        exact ⟨w₂, ⟨hs.trans p.hs, p.le, p.S⟩, hv⟩
      | exc => exact q.elim
    · cases fl with
      | exc x =>
        obtain ⟨w₁, le, F, M, q⟩ := q
        obtain ⟨rfl, rfl⟩ := fin_exc hev
        rcases q with q | ⟨_, q⟩
        · exact (q.mono ⟨hs, le⟩).leave (R := fun e s'' => RC G Y.w₀ Z.s Y.envs (.exc x) σ' (.error e) s'') Y.fr M.frm fun s'' q => q
        · refine q.leave (R := fun e s'' => RC G Y.w₀ Z.s Y.envs (.exc x) σ' (.error e) s'') Y.fr M.frm (fun e he => ?_) fun s'' q => q.mono ⟨hs, le⟩
          exact (List.mem_cons.mp he).elim (fun q => q ▸ ⟨F.kind, let ⟨o, _, a, _⟩ := F.ns; ⟨_, o, M.frm, a⟩⟩) fun q => let ⟨a, L, o, x, y⟩ := Y.hA.frs e q; ⟨a, L, o, x, le.m _ _ y⟩
      | _ => exact q.elim
theorem simC_step {cc m : String} (hfn : G.P.fns cc m = some fn) (H : FnFacts G fn a fd body cx) (hb : SimSs G n cx fn.body body) : SimC G (n + 1) cc m a := by
  intro Z args kvs kn xs ys r σ' hev ha hk
  obtain ⟨fn', e, hev⟩ := onO_inv hev
  rw [hfn] at e; cases e
  obtain ⟨hkw, hev⟩ := if_inv hev
  obtain ⟨vs, hbp, hev⟩ := onO_inv hev
  obtain ⟨oc, od, sl, hlook⟩ := H.look
  have X := Z.B.kin Z.S
  obtain ⟨ds, hds, hdef⟩ := defaults_at H X
  obtain ⟨zs, hz, hvz⟩ := binds_of H.nodup H.dlen ha hk (hds Z.w) hkw hbp
  refine codeAny_call_function (Nat.lt_of_lt_of_le (Nat.lt_of_le_of_lt (Nat.le_trans (Nat.le_add_right _ _) (Nat.le_add_right _ _)) Z.hA.depth) (by decide)) (Z.S.at (Z.B.k _ _ hlook)) rfl H.coro H.gen H.body (codeRec_of X H.code) ?_
  refine bindArgs_to H.p1 H.p2 H.p3 H.p4 H.names hdef hz _ _ _ _ ?_
  rw [H.clos]
  refine wpAny_newFunctionEnv_cells H.kind (fun y hy => ?_) fun env he s₁ x => ?_
  · obtain ⟨p, hp, e⟩ := List.mem_map.mp (List.of_mem_zip hy).1
    rw [← e]
    exact (H.kinds p hp).imp id fun q => ⟨q, let ⟨_, e⟩ := cellsFrom_has _ _ [] q; Option.isSome_iff_exists.mpr ⟨_, e⟩⟩
  have hl : fn.params.length = zs.length := by rw [← mapO_len (if_inv hz.b).2, List.length_zipIdx, List.length_map]
  obtain ⟨Y, ⟨h1, h1'⟩, h2, h3, h4, rfl, h6, h7, rfl⟩ := frame_made Z H hvz hl he x
  exact ⟨(Y.B.mono Y.le.sub).lim Y.S, body_sound hb Y Z x.toInCall.same h7 h2 h6 (by unfold PtS.execs; rw [h1, h1', h3, h4]; exact hev)⟩
end
end Lw
namespace Lw
open PySem PySem.W PySem.Calls PyProof.Rows
section
variable {G : Gl} {n : Nat} {cx : Cxt} {w w' w₀ : Wd} {s s' s₀ s₁ : Shared} {σ σ' : St} {envs : List Env} {pos : Pos}
theorem RC.ex {A : Around} {f : Value} {xs : List Value} {kw : List (Str × Value)} {r : Res V} (A0 : Ahead w₀ s₀ w s) (h : codeAny G.M A (.call f ⟨xs, kw⟩) (RC G w s envs r σ') s) : wpAny G.M A (call f xs kw) (QV G (VR G) w₀ s₀ r σ') (QX G w₀ s₀ envs r σ') s :=
  wpAny_call (codeAny_mono h fun rr s' q => by
    rcases rr with e | (_ | _ | _ | v)
    · cases r with
      | ok => exact q
      | exc => exact XP.mono A0 q
    · exact q
    · exact q
    · exact q
    · exact A0.qv q)
theorem sim_fcall {f : String} {es : List E} {xs : List Expr} {p : Pos} {a : Addr} (hg : cx.isGlob (Str.ofString f) = true) (hname : nsIn G.K mainGlobals (Str.ofString f) = some (some (.ref a))) (hkeep : keepIn G.K (.ref a) = true)
    (hc : SimC G n "" f a) (ha : Sims G n cx es xs) : Sim G n cx (.fcall f es) (.Call (.Name (Str.ofString f) p) xs [] pos) := .of (fun X r σ' hev =>
  callName_sound (kn := []) (kes := []) (ks := []) (k := fun vs _ σ => run G.P n X.hd "" f vs [] σ) X (fun hQ => glob_name X hg hname hQ) (keeps_in hkeep) ha .nil hev fun vs us xv yv w₁ σ₁ s₁ p hv hu hk =>
    RC.ex p.ahead (hc (X.to p).toC vs [] [] xv [] r σ' hk hv .nil)) fun _ _ => rfl
noncomputable def MethAt (K : Frag) (cc m : String) (a : Addr) : Prop := ∃ C, clsAt K cc = some C ∧ findIn K (.ref C) (Str.ofString m) = some (some (.ref a)) ∧ typeIn K (.ref a) = some (.type "function") ∧ keepIn K (.ref a) = true
theorem methV_inv {o : V} {m cc : String} {P : Prog} (hm : methV P σ o m = some cc) : ∃ i fs, o = .ref i ∧ σ.get i = some (.inst cc fs) ∧ lk fs m = none ∧ ∃ fn, P.fns cc m = some fn := by
  obtain ⟨i, rfl, h⟩ := withRef_inv hm
  obtain ⟨ob, hg, h⟩ := onO_inv h
  cases ob with
  | inst c fs =>
    obtain ⟨hl, h⟩ := if_inv h
    cases h
    obtain ⟨h1, h2⟩ := Bool.and_eq_true_iff.mp hl
    exact ⟨i, fs, rfl, hg, Option.isNone_iff_eq_none.mp h1, Option.isSome_iff_exists.mp h2⟩
  | _ => exact no h
theorem sim_mcall {o : E} {m : String} {es kes : List E} {kn : List String} {oe : Expr} {xs : List Expr} {ks : List Keyword} {ap : Pos} (hsup : notSuper oe = true) (hpos : (ap.endLine == pos.line) = true) (hl : xs.length < 10) (hl2 : ks.length < 5)
    (hst : ∀ cc fn, cc ∈ G.com.cls → G.P.fns cc m = some fn → ∃ a, MethAt G.K cc m a ∧ SimC G n cc m a)
    (ho : Sim G n cx o oe) (ha : Sims G n cx es xs) (hks : SimKs G n cx kn kes ks) : Sim G n cx (.mcall o m es kn kes) (.Call (.Attribute oe (Str.ofString m) ap) xs ks pos) := .of (fun X r σ' hev =>
  wpAny_Call_Attr hsup hpos ha hks hl hl2 (ho.bind X .refl hev fun x xv w₁ σ₁ s₁ p hx hk pl => by
    obtain ⟨cc, hm, hk⟩ := onO_inv hk
    obtain ⟨i, fs, rfl, hg, hlk, fn, hfn⟩ := methV_inv hm
    obtain ⟨q, hq, rfl⟩ := hx.refv
    obtain ⟨C, des, k, I, hC, hcc, _, _⟩ := inst_of (X.to p).B p.S hq hg
    obtain ⟨a, ⟨C', hC', hf, ht, hkp⟩, hsim⟩ := hst cc fn hcc hfn
    rw [hC] at hC'; cases hC'
    refine method_fn ((X.to p).B.kin p.S) I.I I.ok.ga I.ok.gt hf ht ?_ ?_
    · unfold shadowIn
      dsimp only
      rw [(fs_look (k := k) I.fs m).2 hlk]; rfl
    · exact callWith_sound (first := [.ref q.1]) (k := fun vs us σ => run G.P n X.hd cc m (.ref i :: vs) (kn.zip us) σ) (keeps_in hkp) ha hks (X.to p) p.ahead hk fun vs us yv zv w₂ σ₂ s₂ p2 hv hu hk =>
        RC.ex (p.ahead.step p2) (hsim ((X.to p).to p2).toC (.ref i :: vs) us kn (.ref q.1 :: yv) zv r σ' hk (.cons (hx.mono p2.hw.sub) hv) hu))) fun _ _ => rfl
theorem clsAt_inv {K : Frag} {k : String} {C : Addr} (h : clsAt K k = some C) : nsIn K mainGlobals (Str.ofString k) = some (some (.ref C)) := by
  unfold clsAt at h
  split at h
  · rename_i b e; cases h; exact e
  · cases h
theorem SR.newInst {k : String} {C : Addr} (S : SR G w σ s.heap) (hk : k ∈ G.com.cls) (hC : clsAt G.K k = some C) :
    Post G w s (w.new (s.heap.objs.size + 1, s.heap.objs.size)) (σ.new (.inst k [])) { s with heap := (s.heap.push emptyDict).push (instObj C s.heap.objs.size) } ∧ VR G (w.new (s.heap.objs.size + 1, s.heap.objs.size)) (.ref σ.n) (.ref (s.heap.objs.size + 1)) := by
  have n1 : s.heap.get? (s.heap.objs.size + 1) = none := get_above (Nat.le_succ _)
  have n2 : s.heap.get? s.heap.objs.size = none := get_size _
  have e1 : ((s.heap.push emptyDict).push (instObj C s.heap.objs.size)).get? (s.heap.objs.size + 1) = some (instObj C s.heap.objs.size) := by
    have := Heap.get?_push_size (s.heap.push emptyDict) (o := instObj C s.heap.objs.size) rfl
    rwa [Heap.size_push] at this
  have e2 : ((s.heap.push emptyDict).push (instObj C s.heap.objs.size)).get? s.heap.objs.size = some emptyDict := Heap.get?_push_of_some _ (Heap.get?_push_size _ rfl)
  exact ⟨⟨.of _ _ s.toks, Wd.new_lt S n1 n2, S.alloc n1 n2 (fun b o e => Heap.get?_push_of_some _ (Heap.get?_push_of_some _ e)) ⟨_, e1⟩ ⟨_, e2⟩ ⟨Wd.new_2, C, [], 0, e1, Wd.new_1, e2, Nat.succ_ne_self _, hk, hC, .nil⟩⟩, S.refNew⟩
noncomputable def Pt.made (X : Pt G n cx) (p : Post G X.w X.s w' σ' s') (C : Addr) (vs : List Value) (kw : List (Str × Value)) : PtC G n where
  hd := X.hd
  w := w'
  σ := σ'
  envs := X.envs
  A := X.A.under (.builtin "type.__call__" ⟨.ref C :: vs, kw⟩)
  s := s'
  B := (X.to p).B
  S := p.S
  hA := ⟨X.hA.handled, by
    have := X.hA.depth
    show X.A.depth + 1 + 4 * n + 2 < 1000
    lia, by
    have := X.hA.units
    show X.A.units + 1 + 100 * n + 150 < 9900
    lia, (X.to p).hA.frs⟩
  fr := X.fr
theorem new_inv {m : RV} {i : Nat} {r : Res V} (h : bindM m (fun v σ => if v.isNone then some (.ok (.ref i), σ) else none) = some (r, σ')) : (m = some (.ok .none, σ') ∧ r = .ok (.ref i)) ∨ ∃ x, m = some (.exc x, σ') ∧ r = .exc x := by
  rcases m with _ | ⟨v | x, σ₁⟩
  · exact no h
  · obtain ⟨hv, h⟩ := if_inv h
    cases v <;> cases hv
    cases h
    exact .inl ⟨rfl, rfl⟩
  · cases h; exact .inr ⟨x, rfl, rfl⟩
theorem sim_new {k : String} {es kes : List E} {kn : List String} {xs : List Expr} {ks : List Keyword} {p : Pos} {C a : Addr} (hg : cx.isGlob (Str.ofString k) = true) (hcl : k ∈ G.com.cls) (hC : clsAt G.K k = some C) (hkeep : keepIn G.K (.ref C) = true)
    (hi : MethAt G.K k "__init__" a) (hsim : SimC G n k "__init__" a) (ha : Sims G n cx es xs) (hks : SimKs G n cx kn kes ks) : Sim G n cx (.new k es kn kes) (.Call (.Name (Str.ofString k) p) xs ks pos) := .of (fun X r σ' hev =>
  callName_sound (kn := kn) (k := fun vs us σ => bindM (run G.P n X.hd k "__init__" (.ref σ.n :: vs) (kn.zip us) (σ.new (.inst k []))) fun r σ' => if r.isNone then some (Res.ok (V.ref σ.n), σ') else none) X (fun hQ => glob_name X hg (clsAt_inv hC) hQ) (keeps_in hkeep) ha hks hev fun vs us xv yv w₁ σ₁ s₁ p hv hu hk => by
    obtain ⟨C', hC', hok⟩ := (X.to p).B.cls _ hcl
    rw [hC] at hC'; cases hC'
    obtain ⟨C', hC', hf, ht, hkp⟩ := hi
    rw [hC] at hC'; cases hC'
    have K1 := (X.to p).B.kin p.S
    obtain ⟨p2, hself⟩ := p.S.newInst hcl hC
    refine wpAny_call (make_core (makes_of K1 (clsOk_parts hok).mi) (looks_findIn K1 hf) (fun self => bind_fn K1 self ht) (.inl rfl) ?_)
    have key := fun r₁ σ₂ h1 => hsim ((X.to p).made p2 C xv ((kn.map Str.ofString).zip yv)) (.ref σ₁.n :: vs) us kn (.ref (s₁.heap.objs.size + 1) :: xv) yv r₁ σ₂ h1 (.cons hself (hv.mono p2.hw.sub)) (hu.mono p2.hw.sub)
    rcases new_inv hk with ⟨h1, rfl⟩ | ⟨x, h1, rfl⟩
    · refine codeAny_mono (key _ _ h1) fun rr s' q => ?_
      rcases rr with e | (_ | _ | _ | v)
      · exact q
      · exact q
      · exact q
      · exact q
      · obtain ⟨w₂, p3, hv'⟩ := q
        cases hv'
        exact ⟨rfl, w₂, (p.ahead.step p2).post p3, hself.mono p3.hw.sub⟩
    · refine codeAny_mono (key _ _ h1) fun rr s' q => ?_
      rcases rr with e | (_ | _ | _ | v)
      · exact XP.mono (p.ahead.step p2) q
      · exact q.elim
      · exact q.elim
      · exact q.elim
      · exact q.elim) fun _ _ => rfl
end
end Lw
namespace Lw
open PySem PySem.W PySem.Calls PyProof.Rows
theorem strLe_iff {a b : Str} : strLe a b = true ↔ a.cps.toList ≤ b.cps.toList := by
  unfold strLe
  simp only [Bool.not_eq_true', decide_eq_false_iff_not]
  exact List.not_lt
theorem strLe_trans (a b c : Str) (h : strLe a b = true) (k : strLe b c = true) : strLe a c = true := strLe_iff.mpr (List.le_trans (strLe_iff.mp h) (strLe_iff.mp k))
theorem strLe_total (a b : Str) : (strLe a b || strLe b a) = true := Bool.or_eq_true_iff.mpr ((List.le_total a.cps.toList b.cps.toList).imp strLe_iff.mpr strLe_iff.mpr)
theorem strLe_antisymm {a b : Str} (h : strLe a b = true) (k : strLe b a = true) : a = b := by
  have := List.le_antisymm (strLe_iff.mp h) (strLe_iff.mp k)
  obtain ⟨⟨a⟩⟩ := a
  obtain ⟨⟨b⟩⟩ := b
  cases this; rfl
theorem sorted_is_mergeSort {l m : List Str} (hp : l.Perm m) (hs : l.Pairwise fun a b => strLe a b = true) : l = m.mergeSort strLe :=
  List.Perm.eq_of_pairwise (le := fun a b => strLe a b = true) (fun _ _ _ _ h k => strLe_antisymm h k) hs (List.pairwise_mergeSort strLe_trans strLe_total m) (hp.trans (List.mergeSort_perm m strLe).symm)
theorem pairwise_of_risingS : ∀ (l : List Str) (p : Str), risingS p l = true → (p :: l).Pairwise fun a b => strLe a b = true := by
  intro r
  induction r with
  | nil =>
    intro p _
    exact List.pairwise_singleton ..
  | cons x r ih =>
    intro p h
    obtain ⟨h1, h2⟩ := Bool.and_eq_true_iff.mp (show (!Spec.ltCps x.cps.toList p.cps.toList && risingS x r) = true from h)
    have ih := ih x h2
    rw [ltCps_eq] at h1
    have h1 : strLe p x = true := h1
    refine List.pairwise_cons.mpr ⟨fun y hy => ?_, ih⟩
    rcases List.mem_cons.mp hy with rfl | hy
    · exact h1
    · exact strLe_trans _ _ _ h1 ((List.pairwise_cons.mp ih).1 y hy)
theorem pairwise_of_sortedS : ∀ {l : List Str}, sortedS l = true → l.Pairwise fun a b => strLe a b = true := by
  intro r
  induction r with
  | nil =>
    intro _
    exact .nil
  | cons x r ih =>
    intro h
    exact pairwise_of_risingS r x h
section
variable {G : Gl} {n : Nat} {cx : Cxt} {w : Wd} {s : Shared} {σ σ' : St} {A : Around} {Ex : Value → Shared → Prop} {r : Res V} {mt : Bool}
theorem get_ge {h : Heap} {D : Addr} (hD : ∀ b o, h.get? b = some o → b < D) : h.get? D = none := by
  cases q : h.get? D with
  | none => rfl
  | some o => exact absurd (hD _ _ q) (Nat.lt_irrefl _)
theorem strs_at : ∀ {xs : List Value} {ss : List Str}, xs.length = ss.length → (∀ (j : Nat) (v : Value), xs[j]? = some v → ∃ x t, ss[j]? = some x ∧ v = .str x t) → StrsAre xs ss
  | [], [], _, _ => .nil
  | [], _ :: _, h, _ => nomatch h
  | _ :: _, [], h, _ => nomatch h
  | v :: xs, y :: ss, h, k => by
    obtain ⟨x, t, e, rfl⟩ := k 0 v rfl
    cases e
    exact .cons _ _ (strs_at (Nat.succ.inj h) fun j u hj => k (j + 1) u hj)
noncomputable def Colls (G : Gl) (A : Around) (s : Shared) (x : Value) (ss : List Str) (E : Value → Shared → Prop) : Prop :=
  ∀ R : List Value → Shared → Prop, (∀ (h' : Heap) (tk : Nat) (vs : List Value), (∀ b o, s.heap.get? b = some o → h'.get? b = some o) → StrsAre vs ss → R vs { s with heap := h', toks := tk }) → wpAny G.M A.in1 (collect x) R E s
theorem strs_vrs {xs : List Value} {ss : List Str} (h : StrsAre xs ss) (hok : ∀ y ∈ ss, sOk y = true) : VRs G w (ss.map .str) xs := by
  induction h with
  | nil => exact .nil
  | cons x t _ ih => exact .cons (.str _ _ (hok _ (List.mem_cons_self ..))) (ih fun y hy => hok y (List.mem_cons_of_mem _ hy))
theorem strs_len {xs : List Value} {ss : List Str} (h : StrsAre xs ss) : xs.length = ss.length := by
  induction h with
  | nil => rfl
  | cons _ _ _ ih => exact congrArg (· + 1) ih
theorem sorted_gen {a : Addr} {ss : List Str} (S : SR G w σ s.heap) (hok : ∀ y ∈ ss, sOk y = true) (h64 : ss.length < 64) (hm : mkL mt ((ss.mergeSort strLe).map .str) σ = some (r, σ')) (hcol : Colls G A s (.ref a) ss Ex) : wpAny G.M A (call (.builtin "sorted") [.ref a]) (QV G (VR G) w s r σ') Ex s := by
  refine Calls.call_function_entry kind_sorted plain_sorted entry_sorted (args_sorted1 _) ?_
  unfold Builtin.«sorted»
  refine wpAny_bind (m := checkCount "sorted" 1 1 _) (wpAny_pure (wpAny_bind (hcol _ fun h1 tk vs k1 hS => ?_)))
  have hlen : vs.length < 64 := strs_len hS ▸ h64
  refine wpAny_bind (wpAny_newList ?_ (Nat.le_trans (Nat.le_of_lt hlen) (by decide)))
  have hoL : (h1.push (seqObj "list" vs.toArray 0)).get? h1.objs.size = some (seqObj "list" vs.toArray 0) := Heap.get?_push_size _ rfl
  refine wpAny_bind (wpAny_holding (wpAny_call_entry (s := { s with heap := h1.push (seqObj "list" vs.toArray 0), toks := tk }) PyProof.Rows.slot_list_sort ⟨_, hoL, rfl⟩ PyProof.Rows.entry_list_sort
    (list_sort_treeK strKind_oneLt hoL hS.keysOf (fun v₁ v₂ rest e => keyKind_strs (by rw [← e]; exact hS)) hlen fun st' hp hs => ⟨_, rfl, ?_⟩) (PyProof.Rows.args_list_sort _)))
  obtain ⟨ss', q1, q2, q3⟩ := sorted_out_str hS hp hs
  have e := sorted_is_mergeSort q2 (pairwise_of_sortedS q3)
  subst e
  obtain ⟨e', he'⟩ := sortedHeap_at (out := (arrOf st').map (·.2)) hoL
  have hperm := List.mergeSort_perm ss strLe
  refine wpAny_pure ⟨_, rfl, mkL_at S (strs_vrs q1 fun y hy => hok y (hperm.mem_iff.mp hy)) (by rw [List.length_map, hperm.length_eq]; exact Nat.le_trans (Nat.le_of_lt h64) (by decide)) hm (get_ge fun b o eb => Heap.lt_size (k1 b o eb)) (fun b o eb => ?_) he'⟩
  have hb := Heap.lt_size (k1 b o eb)
  rw [sortedHeap_old (Nat.ne_of_lt hb) (by rw [size_push']; exact Nat.lt_succ_of_lt hb), Heap.get?_push_of_some _ (k1 b o eb)]
theorem colls_list {l : Addr} {items : Array Value} {ss : List Str} (hl : s.heap.IsList l items) (hS : StrsAre items.toList ss) (h64 : ss.length < 64) : Colls G A s (.ref l) ss Ex := fun R hR => by
  have hl' : s.heap.IsList l items.toList.toArray := by rw [Array.toArray_toList]; exact hl
  refine collect_list hl' (hR _ s.toks _ (fun b o e => ?_) hS) (Nat.le_trans (Nat.le_of_lt (strs_len hS ▸ h64)) (by decide))
  rw [Heap.get?_update_other _ _ (Nat.ne_of_gt (Heap.lt_size e))]; exact Heap.get?_push_of_some _ e
theorem sortS_inv {vs ws : List V} (h : sortV false vs = some ws) : vs.length < 64 ∧ ∃ ss, asStrs vs = some ss ∧ ws = (ss.mergeSort strLe).map .str := by
  obtain ⟨h64, h⟩ := if_inv h
  obtain ⟨ss, h1, h2⟩ := Option.map_eq_some_iff.mp h
  exact ⟨h64, ss, h1, h2.symm⟩
theorem keys_strs {es : List (Str × V)} : ∀ {ss : List Str}, asStrs (es.map fun kv => V.str kv.1) = some ss → ss = es.map (·.1) := by
  induction es with
  | nil => intro ss h; cases h; rfl
  | cons kv es ih =>
    intro ss h
    obtain ⟨bs, h2, h⟩ := onO_inv (show onO (asStrs (es.map fun kv => V.str kv.1)) (fun bs => some (kv.1 :: bs)) = some ss from h)
    cases h
    exact congrArg (List.cons _) (ih h2)
theorem sorted_list {l : Addr} {items : Array Value} {vs ws : List V} (S : SR G w σ s.heap) (hl : s.heap.IsList l items) (hvs : VRs G w vs items.toList) (hs : sortV false vs = some ws) (hm : mkL mt ws σ = some (r, σ')) : wpAny G.M A (call (.builtin "sorted") [.ref l]) (QV G (VR G) w s r σ') Ex s := by
  obtain ⟨h64, ss, hss, rfl⟩ := sortS_inv hs
  obtain ⟨i1, i2, i3⟩ := asStrs_sound hvs hss
  have h64 : ss.length < 64 := i3 ▸ h64
  exact sorted_gen S i2 h64 hm (colls_list hl i1 h64)
theorem sortStrs : SortOk G false := fun n cx X mt args xs r σ' Ex hA hv h => by
  obtain ⟨v, rfl, k1⟩ := arg1_inv h
  cases hv with
  | cons hv hr =>
  cases hr
  obtain ⟨vs, hi, k2⟩ := onO_inv k1
  replace hi : sortItems X.σ v = some vs := hi
  obtain ⟨ws, hw, k3⟩ := onO_inv k2
  cases hv with
  | lst e1 e2 e3 e4 e5 => cases hi; exact sorted_list X.S ⟨_, X.S.at e1, e2, _, e3⟩ e4 hw k3
  | ref hp =>
    obtain ⟨o, hg, hi⟩ := onO_inv hi
    have rr := X.S.ref hp hg
    cases o with
    | list l us =>
      cases hi
      obtain ⟨_, xs, k, r1, _, r2, _⟩ := rr
      exact sorted_list X.S ⟨_, r1, rfl, _, rfl⟩ r2 hw k3
    | ds l es =>
      cases hi
      obtain ⟨⟨_, ob, kvs, r1, _, r2, r3, r4, r5⟩, r6⟩ := rr
      obtain ⟨h64, ss, hss, rfl⟩ := sortS_inv hw
      have e := keys_strs hss
      subst e
      rw [List.length_map] at h64
      refine sorted_gen X.S (fun y hy => ?_) (by rw [List.length_map]; exact h64) k3 fun R hR => ?_
      · obtain ⟨kv, hkv, rfl⟩ := List.mem_map.mp hy
        exact r6 kv hkv
      · obtain ⟨ep, hat⟩ := (Heap.dictOf_iff.mpr ⟨ob, r1, r2⟩ : X.s.heap.DictOf (PySem.strKind G.prog G.ω) _ kvs).dictAt
        refine kdu_collect (A := X.A.in1) (kdl_dict (knd := PySem.strKind G.prog G.ω) (kvs := kvs) (ep := ep) (ne_beq r5)) hA hat (by rw [← All2.length r3]; exact Nat.le_trans (Nat.le_of_lt h64) (by decide)) fun h' tk acc hk hacc => ?_
        refine hR h' tk acc.toList hk (strs_at (by rw [Array.length_toList, hacc.1, List.length_map]; exact (All2.length r3).symm) fun j u hu => ?_)
        obtain ⟨k, z, e1, e2⟩ := hacc.2 j u (by rw [← Array.getElem?_toList]; exact hu)
        obtain ⟨t, rfl⟩ := strKind_inv e2
        have hj : j < es.length := All2.length r3 ▸ (List.getElem?_eq_some_iff.mp e1).1
        obtain ⟨f, e3, e4, _⟩ := All2.get r3 (List.getElem?_eq_getElem hj)
        rw [e1] at e3; cases e3
        exact ⟨k, t, by rw [List.getElem?_map, List.getElem?_eq_getElem hj]; exact congrArg some e4.symm, rfl⟩
    | _ => exact no hi
  | _ => exact no hi
end
end Lw
namespace Lw
open PySem PySem.W PySem.Calls PyProof.Rows
noncomputable def Good {α : Type} (n : Nat) (R : α → Prop) : KasT α → Prop
  | .ret a => R a
  | .ask i j k => i < n ∧ j < n ∧ ∀ b, Good n R (k b)
theorem Good.bind {α β : Type} {n : Nat} {R : α → Prop} {R' : β → Prop} {f : α → KasT β} : ∀ {t : KasT α}, Good n R t → (∀ a, R a → Good n R' (f a)) → Good n R' (t.bind f)
  | .ret a, h, k => k a h
  | .ask i j g, h, k => ⟨h.1, h.2.1, fun b => Good.bind (h.2.2 b) k⟩
theorem askT_good {α : Type} {n : Nat} {R : α → Prop} {c : Nat → Nat → Bool} : ∀ {t : KasT α}, Good n R t → R (askT c t)
  | .ret _, h => h
  | .ask i j k, h => show R (askT c (k (c i j))) from askT_good (t := k (c i j)) (h.2.2 (c i j))
theorem askT_wp {α : Type} {n : Nat} {R : α → Prop} {c : Nat → Nat → Bool} {cmp : Nat → Nat → (Bool → Shared → Prop) → Shared → Prop} {Q : α → Shared → Prop} {s : Shared} (hc : ∀ i j C, i < n → j < n → C (c i j) s → cmp i j C s) :
    ∀ {t : KasT α}, Good n R t → Q (askT c t) s → t.kasWp cmp Q s
  | .ret _, _, h => h
  | .ask i j k, g, h => hc i j _ g.1 g.2.1 (askT_wp hc (g.2.2 (c i j)) h)
noncomputable def PermN (n : Nat) (p : Array Nat) : Prop := p.Perm (List.range n).toArray
theorem PermN.lt {n : Nat} {p : Array Nat} (h : PermN n p) (h0 : 0 < n) (k : Nat) : p.getD k 0 < n := by
  by_cases q : k < p.size
  · have e : p.getD k 0 = p[k] := by simp [Array.getD, q]
    rw [e]
    have := (Array.Perm.mem_iff h).mp (Array.getElem_mem q)
    simpa using this
  · have e : p.getD k 0 = 0 := by simp [Array.getD, q]
    rw [e]; exact h0
section
variable {n : Nat} (h0 : 0 < n)
include h0
theorem good_asc {p : Array Nat} (hp : PermN n p) : ∀ (f m : Nat), Good n (fun _ => True) (kas_asc p f m) := by
  intro f
  induction f with
  | zero =>
    intro m
    exact trivial
  | succ f ih =>
    intro m
    exact ⟨hp.lt h0 _, hp.lt h0 _, fun b => by cases b; exact ih (m + 1); exact trivial⟩
theorem good_desc : ∀ (f : Nat) (p : Array Nat) (m q : Nat), PermN n p → Good n (fun r => PermN n r.1) (kas_desc f p m q) := by
  intro f
  induction f with
  | zero =>
    intro p m q hp
    exact hp
  | succ f ih =>
    intro p m q hp
    exact ⟨hp.lt h0 _, hp.lt h0 _, fun b => by
    cases b with
    | true =>
      show Good n _ (if q > 0 then kas_desc f (kas_rev p (m - (q + 1)) m) (m + 1) 0 else kas_desc f p (m + 1) 0)
      split
      · exact ih _ _ _ ((mirror_perm _ _ _ _).trans hp)
      · exact ih _ _ _ hp
    | false => exact ⟨hp.lt h0 _, hp.lt h0 _, fun b => by cases b; exact ih _ _ _ hp; exact hp⟩⟩
theorem good_tail {p : Array Nat} (hp : PermN n p) (m nrem : Nat) : Good n (fun r => PermN n r.2) (kas_tail3 m nrem p) :=
  have hq : PermN n (kas_rev p 0 m) := (mirror_perm _ _ _ _).trans hp
  (good_asc h0 hq _ _).bind fun _ _ => hq
theorem good_descPart {p : Array Nat} (hp : PermN n p) (m nrem : Nat) : Good n (fun r => PermN n r.2) (kas_descPart m nrem p) :=
  (good_desc h0 _ p _ _ hp).bind fun r hr => by
    split
    · exact good_tail h0 ((mirror_perm _ _ _ _).trans hr) _ _
    · exact good_tail h0 hr _ _
theorem good_count {p : Array Nat} (hp : PermN n p) (nrem : Nat) : Good n (fun r => PermN n r.2) (kas_count nrem p) :=
  (good_asc h0 hp _ _).bind fun m _ => by
    split
    · exact hp
    · split
      · exact ⟨hp.lt h0 _, hp.lt h0 _, fun b => by cases b; exact good_descPart h0 ((mirror_perm _ _ _ _).trans hp) _ _; exact hp⟩
      · exact good_descPart h0 hp _ _
theorem good_place {p : Array Nat} (hp : PermN n p) (k : Nat) : ∀ (f l r : Nat), Good n (fun _ => True) (kas_place p k f l r) := by
  intro f
  induction f with
  | zero =>
    intro l r
    exact trivial
  | succ f ih =>
    intro l r
    unfold kas_place
    split
    · exact trivial
    · exact ⟨hp.lt h0 _, hp.lt h0 _, fun b => by cases b; exact ih _ _; exact ih _ _⟩
theorem good_bin : ∀ (f : Nat) (p : Array Nat) (k : Nat), PermN n p → Good n (PermN n) (kas_bin f p k) := by
  intro f
  induction f with
  | zero =>
    intro p k hp
    exact hp
  | succ f ih =>
    intro p k hp
    exact (good_place h0 hp k k 0 k).bind fun l _ => ih _ _ ((bubble_perm _ _ _).trans hp)
theorem good_sort : Good n (PermN n) (kas_sort n) :=
  (good_count h0 (Array.Perm.refl _) n).bind fun r hr => by
    split
    · exact good_bin h0 _ _ _ hr
    · exact hr
end
theorem out0 : ((orderP []).map fun i => ([] : List Value).getD i Value.none).toArray = (PyProof.Rows.pairsOf []).map (·.2) := by kernel_rfl
theorem out1 (v : Value) (p : Int × Int) : ((orderP [p]).map fun i => [v].getD i Value.none).toArray = (PyProof.Rows.pairsOf [v]).map (·.2) := by kernel_rfl
theorem out_few {vs : List Value} {ps : List (Int × Int)} (h : ps.length = vs.length) (h2 : vs.length < 2) : ((orderP ps).map fun i => vs.getD i Value.none).toArray = (PyProof.Rows.pairsOf vs).map (·.2) := by
  rcases vs with _ | ⟨v, _ | ⟨u, r⟩⟩
  · rw [List.eq_nil_of_length_eq_zero h]; exact out0
  · obtain ⟨p, rfl⟩ := List.length_eq_one_iff.mp h; exact out1 v p
  · exact absurd h2 (Nat.not_lt.mpr (Nat.le_add_left 2 r.length))
theorem orderP_perm (ps : List (Int × Int)) : (orderP ps).Perm (List.range ps.length) := by
  cases ps with
  | nil => exact .refl _
  | cons a r =>
    have := askT_good (c := fun i j => pairLt (pairAt (a :: r) i) (pairAt (a :: r) j)) (good_sort (n := (a :: r).length) (Nat.succ_pos _))
    exact Array.perm_iff_toList_perm.mp this
theorem sortP_perm (ps : List (Int × Int)) : (sortP ps).Perm ps := by
  have h := (orderP_perm ps).map (pairAt ps)
  have e : (List.range ps.length).map (pairAt ps) = ps := by
    apply List.ext_getElem?
    intro i
    by_cases q : i < ps.length
    · simp [pairAt, q]
    · simp [q]
  rw [e] at h
  exact h
noncomputable def PairsAt (h : Heap) : List Value → List (Int × Int) → Prop := All2 fun v p => ∃ b o t u k, v = .ref b ∧ h.get? b = some o ∧ o.cls = .type "tuple" ∧ o.data = .seq #[.int p.1 t, .int p.2 u] k
section
variable {prog : Program} {w : World} {A : Around} {E : Value → Shared → Prop} {s : Shared} {vs : List Value} {ps : List (Int × Int)}
theorem PairsAt.katTups {h : Heap} (H : PairsAt h vs ps) : ∃ fs, KatTups h vs fs ∧ fs.length = vs.length ∧ ∀ v ∈ fs, ∃ i t, v = .int i t := by
  induction H with
  | nil => exact ⟨[], .nil, rfl, fun _ h => nomatch h⟩
  | cons r _ ih =>
    obtain ⟨b, o, t, u, k, rfl, e1, e2, e3⟩ := r
    obtain ⟨fs, f1, f2, f3⟩ := ih
    exact ⟨_ :: fs, .cons e1 e2 e3 rfl f1, congrArg (· + 1) f2, fun v hv => by
      rcases List.mem_cons.mp hv with rfl | hv
      · exact ⟨_, _, rfl⟩
      · exact f3 v hv⟩
theorem pair_lt {i j : Nat} {C : Bool → Shared → Prop} (H : PairsAt s.heap vs ps) (hi : i < vs.length) (hj : j < vs.length) (h : C (pairLt (pairAt ps i) (pairAt ps j)) s) : kas_ask prog w A (tuples' true) vs i j C s := by
  obtain ⟨p, ep, x, o, t, u, k, e1, e2, e3, e4⟩ := All2.get H (List.getElem?_eq_getElem hi)
  obtain ⟨q, eq, y, o', t', u', k', f1, f2, f3, f4⟩ := All2.get H (List.getElem?_eq_getElem hj)
  have hp : pairAt ps i = p := by unfold pairAt; rw [List.getD_eq_getElem?_getD, ep]; rfl
  have hq : pairAt ps j = q := by unfold pairAt; rw [List.getD_eq_getElem?_getD, eq]; rfl
  rw [hp, hq] at h
  unfold kas_ask
  have g1 : vs.getD i Value.none = .ref x := by rw [List.getD_eq_getElem?_getD, List.getElem?_eq_getElem hi]; exact e1
  have g2 : vs.getD j Value.none = .ref y := by rw [List.getD_eq_getElem?_getD, List.getElem?_eq_getElem hj]; exact f1
  rw [g1, g2]
  refine kat_lt e2 e4 f2 f4 (kat_cons (wpAny_eqBool_int (kat_go (fun e => kat_yes (kat_cons (wpAny_eqBool_int (kat_go (fun e2 => kat_yes (kat_nil ?_)) fun e2 => kat_no (kat_one _ _ (lt_int ?_)))))) fun e => kat_no (oneLt_int ?_))))
  · have e := eq_of_beq e
    have e2 := eq_of_beq e2
    unfold pairLt at h
    rw [if_pos e, e2] at h
    simpa using h
  · have e := eq_of_beq e
    unfold pairLt at h
    rw [if_pos e] at h
    exact h
  · have e := ne_of_beq_false e
    unfold pairLt at h
    rw [if_neg e] at h
    exact h
theorem PairsAt.keepT {h h' : Heap} (H : PairsAt h vs ps) (k : ∀ b o, o.cls = .type "tuple" → h.get? b = some o → h'.get? b = some o) : PairsAt h' vs ps :=
  All2.mono H fun _ _ z => by
    obtain ⟨b, o, t, u, n, z1, z2, z3, z4⟩ := z
    exact ⟨b, o, t, u, n, z1, k b o z3 z2, z3, z4⟩
theorem list_sort_pairs {a : Addr} {n : Nat} {P : Fin → Shared → Prop} (ho : s.heap.get? a = some (seqObj "list" vs.toArray n)) (H : PairsAt s.heap vs ps) (h64 : vs.length < 64)
    (h : P (.done (.ret .none)) { s with heap := sortedHeap s.heap a vs ((orderP ps).map fun i => vs.getD i Value.none).toArray }) :
    wpAny (model prog w) A (Builtin.«list.sort» ⟨[.ref a], []⟩) P E s := by
  rw [list_sort_plain]
  have ha : a < s.heap.objs.size := Heap.lt_size ho
  refine wpAny_bind (listItems_at ho rfl ?_)
  refine wpAny_bind (listUpdate_at ho rfl ?_ (by rw [List.size_toArray, sizeLine_eq]; lia) (Nat.zero_le _))
  obtain ⟨e1, ho1⟩ : ∃ e1, (s.heap.update a (Obj.mapSeq fun _ => (#[] : Array Value))).get? a = some (seqObj "list" #[] e1) := ⟨_, get?_update_seq ho (fun _ => #[])⟩
  refine wpAny_bind (seqEpoch_at ho1 rfl ?_)
  refine wpAny_bind (wpAny_newTuple ?_ (by show vs.length ≤ _; rw [sizeLine_eq]; lia))
  refine wpAny_bind (wpAny_newList ?_ (Nat.zero_le _))
  refine wpAny_holding ?_
  have keep : ∀ b o, b ≠ a → s.heap.get? b = some o → (((s.heap.update a (Obj.mapSeq fun _ => (#[] : Array Value))).push (seqObj "tuple" vs.toArray 0)).push (seqObj "list" #[] 0)).get? b = some o := fun b o hb e =>
    Heap.get?_push_of_some _ (Heap.get?_push_of_some _ ((Heap.get?_update_other _ _ (Ne.symm hb)).trans e))
  have ho6 : (((s.heap.update a (Obj.mapSeq fun _ => (#[] : Array Value))).push (seqObj "tuple" vs.toArray 0)).push (seqObj "list" #[] 0)).get? a = some (seqObj "list" #[] e1) := Heap.get?_push_of_some _ (Heap.get?_push_of_some _ ho1)
  have H6 : PairsAt (((s.heap.update a (Obj.mapSeq fun _ => (#[] : Array Value))).push (seqObj "tuple" vs.toArray 0)).push (seqObj "list" #[] 0)) vs ps := H.keepT fun b o hc e => keep b o (fun q => by rw [q, ho] at e; cases e; exact absurd (Value.type.inj hc) (by decide)) e
  have hlen : ps.length = vs.length := (All2.length H).symm
  show wpAny (model prog w) A _ P E { s with heap := ((s.heap.update a (Obj.mapSeq fun _ => (#[] : Array Value))).push (seqObj "tuple" vs.toArray 0)).push (seqObj "list" #[] 0) }
  dsimp only
  have hsz : vs.toArray.size = vs.length := by simp
  by_cases h2 : vs.toArray.size < 2
  · rw [if_pos h2, if_pos h2]
    refine wpAny_bind (wpAny_pure ?_)
    rw [StateT.run_pure]
    refine wpAny_bind (wpAny_pure ?_)
    dsimp only
    refine wpAny_bind (seqEpoch_at ho6 rfl ?_)
    refine wpAny_bind (listUpdate_at ho6 rfl ?_ (hsz2 := by rw [Array.size_map]; show (pairsOf vs).size ≤ _; rw [pairsOf_size, sizeLine_eq]; lia))
    simp only [bne_self_eq_false, Bool.false_eq_true, if_false]
    refine wpAny_pure ?_
    rw [out_few hlen (hsz ▸ h2)] at h
    exact h
  · rw [if_neg h2, if_neg h2]
    have h2 : 2 ≤ vs.length := by lia
    obtain ⟨fs, f1, f2, f3⟩ := H6.katTups
    refine wpAny_bind (kat_kind (T := .type "int") f1 (by lia) (fun v hv => by obtain ⟨i, t, rfl⟩ := f3 v hv; exact Looks.of_pure rfl) rfl ?_)
    refine wpAny_bind (wpAny_mono (kat_run (Q := fun st' s' => ∃ p : Array Nat, p.size = vs.length ∧ arrOf st' = p.map (kas_item (vs.toArray.zip vs.toArray)) ∧ failedOf st' = none ∧ p = askT (fun i j => pairLt (pairAt ps i) (pairAt ps j)) (kas_sort vs.length) ∧ s' = { s with heap := ((s.heap.update a (Obj.mapSeq fun _ => (#[] : Array Value))).push (seqObj "tuple" vs.toArray 0)).push (seqObj "list" #[] 0) })
      rfl h2 h64 (fun p' st' s' a1 a2 a3 a4 => ⟨p', a1, a2, a3, a4⟩) (askT_wp (c := fun i j => pairLt (pairAt ps i) (pairAt ps j)) (fun i j C hi hj hC => pair_lt H6 hi hj hC) (good_sort (by lia)) ⟨rfl, rfl⟩)) ?_ fun _ _ e => e)
    rintro ⟨⟨⟩, st'⟩ s' ⟨p, hp, har, hf, ep, rfl⟩
    dsimp only
    have eo : ((orderP ps).map fun i => vs.getD i Value.none).toArray = (arrOf st').map (·.2) := by
      rw [kat_snds rfl har]
      unfold orderP
      rw [hlen, ← ep]
    refine wpAny_bind (seqEpoch_at ho6 rfl ?_)
    refine wpAny_bind (listUpdate_at ho6 rfl ?_ (hsz2 := by rw [har, Array.size_map, Array.size_map, hp, sizeLine_eq]; lia))
    rw [hf]
    simp only [bne_self_eq_false, Bool.false_eq_true, if_false]
    refine wpAny_pure ?_
    rw [eo] at h
    exact h
end
section
variable {G : Gl} {n : Nat} {cx : Cxt} {w : Wd} {s : Shared} {σ σ' : St} {A : Around} {Ex : Value → Shared → Prop} {r : Res V} {mt : Bool}
theorem asPair_inv {v : V} {p : Int × Int} (h : asPair v = some p) : v = pairV p := by
  cases v with
  | tup vs =>
    rcases vs with _ | ⟨a, _ | ⟨b, _ | ⟨c, r⟩⟩⟩
    · exact no h
    · exact no h
    · obtain ⟨i, rfl, h⟩ := withInt_inv (show withInt a (fun a => withInt b fun b => some (a, b)) = some p from h)
      obtain ⟨j, rfl, h⟩ := withInt_inv h
      cases h; rfl
    · exact no h
  | _ => exact no h
theorem pairs_at {vs : List V} {xs : List Value} (S : SR G w σ s.heap) (h : VRs G w vs xs) : ∀ {ps : List (Int × Int)}, asPairs vs = some ps → PairsAt s.heap xs ps := by
  induction h with
  | nil => intro ps h; cases h; exact .nil
  | cons hv _ ih =>
    intro ps h
    obtain ⟨p, h1, h⟩ := onO_inv h
    obtain ⟨qs, h2, h⟩ := onO_inv h
    cases h
    refine .cons ?_ (ih h2)
    rw [asPair_inv h1] at hv
    cases hv with
    | @tup _ a o ys k e1 e2 e3 e4 _ =>
      have hl := All2.length e4
      obtain ⟨ys⟩ := ys
      cases e4 with
      | cons q1 q2 =>
        cases q2 with
        | cons q2 q3 =>
          cases q3
          cases q1
          cases q2
          exact ⟨a, o, _, _, k, rfl, S.at e1, e2, e3⟩
theorem vrs_perm {vs : List V} {xs : List Value} {d : V} (h : VRs G w vs xs) : ∀ (l : List Nat), (∀ i ∈ l, i < vs.length) → VRs G w (l.map fun i => vs.getD i d) (l.map fun i => xs.getD i Value.none) := by
  intro l
  induction l with
  | nil =>
    intro _
    exact .nil
  | cons i l ih =>
    intro k
    refine .cons ?_ (ih fun j hj => k j (List.mem_cons_of_mem _ hj))
    have hi := k i (List.mem_cons_self ..)
    obtain ⟨y, e1, e2⟩ := All2.get h (List.getElem?_eq_getElem hi)
    show VR G w (vs.getD i d) (xs.getD i Value.none)
    rw [List.getD_eq_getElem?_getD, List.getD_eq_getElem?_getD, e1, List.getElem?_eq_getElem hi]
    exact e2
theorem asPairs_map : ∀ {vs : List V} {ps : List (Int × Int)}, asPairs vs = some ps → vs = ps.map pairV
  | [], ps, h => by cases h; rfl
  | v :: vs, ps, h => by
    obtain ⟨p, h1, h⟩ := onO_inv h
    obtain ⟨qs, h2, h⟩ := onO_inv h
    cases h
    rw [asPair_inv h1, asPairs_map h2]; rfl
theorem sorted_pairs {a : Addr} {items : Array Value} {vs ws : List V} (S : SR G w σ s.heap) (hl : s.heap.IsList a items) (hvs : VRs G w vs items.toList) (hs : sortV true vs = some ws) (hm : mkL mt ws σ = some (r, σ')) : wpAny G.M A (call (.builtin "sorted") [.ref a]) (QV G (VR G) w s r σ') Ex s := by
  obtain ⟨h64, hs⟩ := if_inv hs
  obtain ⟨ps, hps, rfl⟩ := Option.map_eq_some_iff.mp (show (asPairs vs).map (fun ps => (sortP ps).map pairV) = some ws from hs)
  have hlen : items.toList.length < 64 := All2.length hvs ▸ h64
  refine Calls.call_function_entry kind_sorted plain_sorted entry_sorted (args_sorted1 _) ?_
  unfold Builtin.«sorted»
  have hl' : s.heap.IsList a items.toList.toArray := by rw [Array.toArray_toList]; exact hl
  refine wpAny_bind (m := checkCount "sorted" 1 1 _) (wpAny_pure (wpAny_bind (collect_list hl' ?_ (Nat.le_trans (Nat.le_of_lt hlen) (by decide)))))
  have k1 : ∀ b o, s.heap.get? b = some o → ((s.heap.push (seqObj "list" #[] 0)).update s.heap.objs.size (Obj.mapSeq (· ++ items.toList.toArray))).get? b = some o := fun b o e => by
    rw [Heap.get?_update_other _ _ (Nat.ne_of_gt (Heap.lt_size e))]; exact Heap.get?_push_of_some _ e
  refine wpAny_bind (wpAny_newList ?_ (Nat.le_trans (Nat.le_of_lt hlen) (by decide)))
  show wpAny _ _ _ _ _ { s with heap := ((s.heap.push (seqObj "list" #[] 0)).update s.heap.objs.size (Obj.mapSeq (· ++ items.toList.toArray))).push (seqObj "list" items.toList.toArray 0) }
  generalize (s.heap.push (seqObj "list" #[] 0)).update s.heap.objs.size (Obj.mapSeq (· ++ items.toList.toArray)) = h1 at k1
  have hoL : (h1.push (seqObj "list" items.toList.toArray 0)).get? h1.objs.size = some (seqObj "list" items.toList.toArray 0) := Heap.get?_push_size _ rfl
  have H : PairsAt (h1.push (seqObj "list" items.toList.toArray 0)) items.toList ps := All2.mono (pairs_at S hvs hps) fun v p ⟨b, o, t, u, k, z1, z2, z3, z4⟩ => ⟨b, o, t, u, k, z1, Heap.get?_push_of_some _ (k1 _ _ z2), z3, z4⟩
  refine wpAny_bind (wpAny_holding (wpAny_call_entry (s := { s with heap := h1.push (seqObj "list" items.toList.toArray 0) }) PyProof.Rows.slot_list_sort ⟨_, hoL, rfl⟩ PyProof.Rows.entry_list_sort
    (list_sort_pairs hoL H hlen ⟨_, rfl, ?_⟩) (PyProof.Rows.args_list_sort _)))
  obtain ⟨e', he'⟩ := sortedHeap_at (out := ((orderP ps).map fun i => items.toList.getD i Value.none).toArray) hoL
  have ev := asPairs_map hps
  have hlp : vs.length = ps.length := by rw [ev, List.length_map]
  have hord := orderP_perm ps
  have hV : VRs G w ((sortP ps).map pairV) ((orderP ps).map fun i => items.toList.getD i Value.none) := by
    have := vrs_perm (d := pairV (0, 0)) hvs (orderP ps) fun i hi => by rw [hlp]; exact List.mem_range.mp (hord.mem_iff.mp hi)
    rw [show (orderP ps).map (fun i => vs.getD i (pairV (0, 0))) = (sortP ps).map pairV from by
      unfold sortP
      rw [List.map_map, ev]
      exact List.map_congr_left fun i _ => by
        show (ps.map pairV).getD i (pairV (0, 0)) = pairV (pairAt ps i)
        unfold pairAt
        rw [List.getD_eq_getElem?_getD, List.getD_eq_getElem?_getD, List.getElem?_map]
        cases ps[i]? <;> rfl] at this
    exact this
  refine wpAny_pure ⟨_, rfl, mkL_at S (out := ((orderP ps).map fun i => items.toList.getD i Value.none).toArray) hV (by rw [List.length_map, (sortP_perm ps).length_eq, ← hlp]; exact Nat.le_trans (Nat.le_of_lt h64) (by decide)) hm (get_ge fun b o eb => Heap.lt_size (k1 b o eb)) (fun b o eb => ?_) he'⟩
  have hb := Heap.lt_size (k1 b o eb)
  rw [sortedHeap_old (Nat.ne_of_lt hb) (by rw [size_push']; exact Nat.lt_succ_of_lt hb), Heap.get?_push_of_some _ (k1 b o eb)]
theorem sortPairs : SortOk G true := fun n cx X mt args xs r σ' Ex hA hv h => by
  obtain ⟨v, rfl, k1⟩ := arg1_inv h
  cases hv with
  | cons hv hr =>
  cases hr
  obtain ⟨vs, hi, k2⟩ := onO_inv k1
  replace hi : seqOf X.σ v = some vs := hi
  obtain ⟨ws, hw, k3⟩ := onO_inv k2
  obtain ⟨a, xs, rfl, hl, hx⟩ := seqOf_sound X.S hv hi
  exact sorted_pairs X.S hl hx.1 hw k3
end
end Lw
namespace Lw
open PySem PySem.W PySem.Calls PyProof.Rows
section
variable {G : Gl} {n : Nat} {cx : Cxt} {w w' w₀ : Wd} {s s' s₀ : Shared} {σ σ' : St} {env : Env} {envs : List Env} {pos : Pos} {x : String} {C D : Addr}
theorem sim_raise {m : Str} {np cpos p : Pos} {j : Nat} (hx : ExcCls G x C) (hg : cx.isGlob (Str.ofString x) = true) (hm : sOk m = true) :
    SimS G n cx (.raise x m) (.Raise (some (.Call (.Name (Str.ofString x) np) [.Constant (.str m) j p] [] cpos)) none pos) := fun Y fl ρ' σ' hev => by
  obtain ⟨h1, hev⟩ := ifn_inv (show (if Y.hd = true then none else if Y.dr = true then some (Fl.exc x, Y.ρ, Y.σ) else none) = some (fl, ρ', σ') from hev)
  obtain ⟨h2, hev⟩ := if_inv hev
  cases hev
  have Bw := Y.B.mono Y.le.sub
  obtain ⟨nm, q, N, bs, bm, hdct, sn, sub, ab, col, dd, k0, k1, k2, k3, k5, mN, e1, e2, e3, e4⟩ := excObj_at (Bw.kin Y.S) (Bw.excs hx).1
  have hbase : bm.contains (.type "BaseException") = true := e4.hasType (by decide)
  refine wpAny_Raise_call_subU (bmB := excBm) (C := C) (nm := nm) (q := q) (N := N) (bs := bs) (hdct := hdct) (sn := sn) (sub := sub) (ab := ab) (col := col) (dd := dd) (k0 := k0) (k1 := k1) (k2 := k2) (k3 := k3) (k5 := k5) F.excBase_ValueError (by decide) F.excBase_ValueError hbase (Y.hA.handled (by simpa using h1)) rfl e3 (glob_name Y.pt hg (clsAt_inv hx.2) ⟨rfl, ?_⟩)
  show wpAny _ _ (evalArgs (.ref C) true [(false, eval (.Constant (.str m) j p) Y.env)] []) _ _ _
  refine Calls.evalArgs_plain (spliced_cons (wpAny_Constant_str (spliced_nil ⟨rfl, (show (1 : Nat) ≤ sizeLine by decide), e1, e2, e4, fun h' e hm => ⟨Y.w, Y.le, Y.F, Y.M, .inr ⟨h2, e, C, _, _, rfl, hx, .of _ _ _, Y.S, hm⟩⟩⟩)))
theorem exc_matches {A : Around} {d : String} {e : Addr} {oe : Obj} {Q : Bool → Shared → Prop} {Ex : Value → Shared → Prop} (B : Base G w) (S : SR G w σ s.heap) (hx : ExcCls G x C) (hD : ExcCls G d D) (he : s.heap.get? e = some oe) (hc : oe.cls = .ref C) (hs : G.P.sub x d = true) (h : Q true s) :
    wpAny G.M A (excMatches (.ref e) (.ref D)) Q Ex s := by
  have X := B.kin S
  obtain ⟨nm, q, N, bs, bm, hdct, sn, sub, ab, col, dd, k0, k1, k2, k3, k5, mN, e1, _⟩ := excObj_at X (B.excs hD).1
  have a1 := (B.excs hD).2.1
  unfold excAtt at a1
  have L1 : Looks G.M s.heap (isInstance (.ref D) (.type "tuple")) false := ((Looks.ld e1).andThen .now : Looks G.M s.heap (typeOf (.ref D)) (.type "type")).andThen (Looks.of_pure tc_notTuple)
  have L2 : Looks G.M s.heap (isType (.ref D)) true := by
    intro A' Q' E' s' k q
    unfold isType loadHead
    exact wpAny_bind (wpAny_loadPart (k _ _ e1) (wpAny_pure q))
  have L3 : Looks G.M s.heap (isSubtype (.ref D) (.type "BaseException")) true := looks_mroIn X (beqO (and2B (and2B (and2B (and2B (and2B (and2B a1).2).2).2).2).2).2)
  have L4 : Looks G.M s.heap (typeOf (.ref e)) (.ref C) := hc ▸ (Looks.ld he).andThen .now
  have L5 : Looks G.M s.heap (isSubtype (.ref C) (.ref D)) true := looks_mroIn X (hs ▸ ((B.excs hx).2.2.2 d D (.inl hD.1) hD.2).2)
  obtain ⟨hh, g, d, t, os⟩ := s
  unfold excMatches isExcClass
  repeat (first | with_reducible refine Looks.at (by assumption) ?_ | wp_step)
  exact h
theorem fr_none {vis : List (Str × Nat)} {ρ : Rho} {o : Obj} {m : Str → Option Value} (F : FR G w env vis ρ) (hm : w'.m env.locals = some (.fr o)) (hN : ObjNs o m) : FR G w' env vis fun _ => none :=
  ⟨F.kind, F.glob, F.bi, ⟨o, m, hm, hN, fun _ _ _ _ _ e => no e⟩, fun _ _ _ _ _ e => no e⟩
theorem unbind_inv {r : RS} {fl : Fl} {ρ' : Rho} (h : unbind r = some (fl, ρ', σ')) : ∃ v ρ, r = some (.ret v, ρ, σ') ∧ fl = .ret v ∧ ρ' = fun _ => none := by
  rcases r with _ | ⟨_ | v | c, ρ, σ⟩
  · exact no h
  · exact no h
  · cases h; exact ⟨v, ρ, rfl, rfl, rfl⟩
  · exact no h
theorem name_goes {v : V} {z : Value} {ρ : Rho} {y : Str} {p : Pos} {A : Around} {Ex : Value → Shared → Prop} (Y : PtS G n cx) (hl : cx.scope.names.lookup y = some .local) (q : SPost G cx.vis Y.w₀ s Y.env w' ρ σ' s') (hv : VR G w' v z) :
    wpAny G.M A (do bindName Y.env y .none; unbindBehindTheSuite Y.env y p) (fun _ s'' => QS G cx.vis Y.w₀ s Y.env (.ret v) (fun _ => none) σ' (.ret z) s'') Ex s' := by
  rw [← Y.hn.names] at hl
  obtain ⟨ob, _, hm, hns0, _⟩ := q.F.ns
  obtain ⟨m, hns, _⟩ := q.F.locals q.S
  refine wpAny_nameGoes hl hns (by rw [q.F.kind]; rfl) fun h' m' hn' hs' => ?_
  obtain ⟨o', ho', hN⟩ := ObjNs.of hn'
  have sub : w'.Sub (w'.set Y.env.locals (.fr o')) := sub_set hm fun _ q => nomatch q
  have ne : ∀ z a, Y.env.cells.lookup z = some a → a ≠ Y.env.locals := fun z a e k => by
    obtain ⟨o, v, e1, e2⟩ := q.M.cells z a e
    rw [k, hm] at e1; cases e1
    obtain ⟨es, ep, k, _⟩ := hns0
    rw [k] at e2; cases e2
  exact ⟨z, _, rfl, ⟨q.hs.trans (.of _ _ _), ⟨fun b z e => (Wd.set_ne fun k => by rw [k, q.M.out] at e; cases e).trans (q.le.m b z e), q.le.φ⟩, q.S.turnF hm (fun b z hb e => (hs'.2 b hb).trans e) (okFr hN.nf ho'), fr_none q.F Wd.set_at hN,
    q.M.frm, q.M.out, q.M.cout, fun z a e => let ⟨o, v, k, r⟩ := q.M.cells z a e; ⟨o, v, (Wd.set_ne (ne z a e)).trans k, r⟩, q.M.inj⟩, hv.mono sub⟩
theorem XP.out {B : Heap} {ea : Addr} {a0 : Value} {h : Heap} {l : List Env} {cls : Value} (S : SR G w σ h) (hf : Heap.FlyingW B l ea cls a0 h) (hB : ∀ b o y, w.m b = some o → (∀ z, o ≠ .fr z) → h.get? b = some y → B.get? b = some y) : w.m ea = none := by
  cases e : w.m ea with
  | none => rfl
  | some o =>
    obtain ⟨oe, vs, he, _, hd, _⟩ := hf.first
    have k := S.m _ _ e
    have h2 := hf.2.1
    cases o with
    | fr z => obtain ⟨q, sl, r⟩ := k; rw [he] at r; cases r; exact absurd hd (q vs)
    | _ => have := hB ea _ _ e (fun z q => nomatch q) he; rw [h2] at this; cases this
noncomputable def PtS.noRaise (Y : PtS G n cx) : PtS G n cx := { Y with dr := false }
theorem catch_el {m : RS} {kk : String → Rho → St → RS} {r : Fl × Rho × St} {P : Prop} (h : catchS m kk = some r) (h1 : ∀ ρ σ, m = some (.next, ρ, σ) → r = (.next, ρ, σ) → P) (h2 : ∀ v ρ σ, m = some (.ret v, ρ, σ) → r = (.ret v, ρ, σ) → P) (h3 : ∀ x ρ σ, m = some (.exc x, ρ, σ) → kk x ρ σ = some r → P) : P := by
  rcases m with _ | ⟨fl, ρ, σ⟩
  · exact no h
  · cases fl with
    | next => cases h; exact h1 _ _ rfl rfl
    | ret v => cases h; exact h2 _ _ _ rfl rfl
    | exc x => exact h3 _ _ _ rfl h
theorem qxs_el {ρ₁ : Rho} {vis : List (Str × Nat)} {env : Env} {envs : List Env} {x' : String} {e : Value} {s₁ : Shared} {σ₁ : St} {P : Prop} (q : QXS G vis w₀ s env envs false (.exc x') ρ₁ σ₁ e s₁)
    (k : ∀ ea C a0 B w₂, e = .ref ea → ExcCls G x' C → w₀.Le w₂ → Same s s₁ → SR G w₂ σ₁ s₁.heap → FR G w₂ env vis ρ₁ → Frm w₀ w₂ env → Heap.FlyingW B (env :: envs) ea (.ref C) a0 s₁.heap → (∀ b o y, w₂.m b = some o → (∀ z, o ≠ .fr z) → s₁.heap.get? b = some y → B.get? b = some y) → P) : P := by
  obtain ⟨w₁, le₁, F₁, M₁, q | ⟨q, _⟩⟩ := q
  · obtain ⟨ea, C, a0, B, w₂, rfl, hC, p, hfl, hB⟩ := q
    exact k ea C a0 B w₂ rfl hC (le₁.trans p.hw) p.hs p.S (F₁.mono p.hw) (M₁.mono p.hw) hfl hB
  · cases q
noncomputable def PtS.land {w₂ : Wd} {ρ₁ : Rho} {σ₁ : St} {h' : Heap} {s₁ : Shared} (Y : PtS G n cx) (ea : Addr) (le : Y.w₀.Le w₂) (S : SR G w₂ σ₁ h') (F : FR G w₂ Y.env cx.vis ρ₁) (M : Frm Y.w₀ w₂ Y.env) : PtS G n cx :=
  ⟨true, false, Y.w₀, w₂, ρ₁, σ₁, Y.env, Y.envs, Y.A.mark (some (.ref ea)), { s₁ with heap := h' }, Y.B, le, S, F, M, Y.hn, ⟨(fun q => nomatch q), Y.hA.depth, Y.hA.units, Y.hA.frs⟩, Y.fr⟩
theorem try_handle {h : List S} {k : Nat} {h₀ : Stmt} {suite : List Stmt} {y : Str} {np hp : Pos} {w₂ : Wd} {ρ₁ ρ₂ : Rho} {σ₁ σ₂ : St} {v : V} {x' : String} {ea C : Addr} {a0 : Value} {Bh h₅ : Heap} {s₁ : Shared} {Q : Flow → Shared → Prop} {E : Value → Shared → Prop} (hx : ExcCls G x D) (hg : cx.isGlob (Str.ofString x) = true) (hvis : VisOK cx.vis) (hk : cx.vis.lookup y = some k) (hl : cx.scope.names.lookup y = some .local) (hh : SimSs G n cx h (h₀ :: suite))
    (Y : PtS G n cx) (hC : ExcCls G x' C) (le₂ : Y.w₀.Le w₂) (hs : Same Y.s s₁) (S : SR G w₂ σ₁ s₁.heap) (F : FR G w₂ Y.env cx.vis ρ₁) (M : Frm Y.w₀ w₂ Y.env) (hfl : Heap.FlyingW Bh (Y.env :: Y.envs) ea (.ref C) a0 s₁.heap) (hB : ∀ b o y, w₂.m b = some o → (∀ z, o ≠ .fr z) → s₁.heap.get? b = some y → Bh.get? b = some y)
    (hf5 : Heap.FlyingW Bh (Y.env :: Y.envs) ea (.ref C) a0 h₅) (u5 : s₁.heap.UpToSlots h₅) (hsub : G.P.sub x' x = true) (hx2 : Lw.execs G.P (run G.P n) true false h (upd ρ₁ k (.exc x')) σ₁ = some (.ret v, ρ₂, σ₂)) (hQ : ∀ f s', QS G cx.vis Y.w₀ Y.s Y.env (.ret v) (fun _ => none) σ₂ f s' → Q f s') :
    wpAny G.M Y.A (handleBy (.ref ea) Y.env [.ExceptHandler (some (.Name (Str.ofString x) np)) (some y) (h₀ :: suite) hp]) Q E { s₁ with heap := h₅ } := by
  have S5 : SR G w₂ σ₁ h₅ := S.fly hB hf5.1 u5
  refine wpAny_handleBy_cons (codeAny_handlers_test (glob_name (Y.land (s₁ := s₁) ea le₂ S5 F M).pt hg (clsAt_inv hx.2) ?_)) (fun q => nomatch q)
  obtain ⟨oe5, _, he5, hc5, _⟩ := hf5.first
  refine exc_matches (w := w₂) (σ := σ₁) (Y.B.mono le₂.sub) S5 hC hx he5 hc5 hsub ?_
  refine codeAny_handlers_suite_as (lands_againW hf5 fun h₆ hf6 u6 => ?_)
  obtain ⟨oe, vs, he, hcls, hd, _⟩ := hf6.first
  have hn : w₂.m ea = none := XP.out S hfl hB
  have le3 : w₂.Le (w₂.set ea (.fix oe)) := Wd.le_set hn
  have S7 : SR G (w₂.set ea (.fix oe)) σ₁ h₆ := (S.fly hB hf6.1 (u5.trans u6)).set le3.sub (Wd.unheld_none hn) (fun _ _ _ q => q) he
  refine wpAny_mono (store_local (Y.land (s₁ := s₁) ea (le₂.trans le3) S7 (F.mono le3) (M.mono le3)) hvis hk hl (v := .exc x') (.exc Wd.set_at hcls (by unfold notCls; rw [hd]) hC)) (fun _ s₇ q => ?_) fun _ _ q => q
  obtain ⟨w₇, q7, _⟩ := q
  refine wpAny_mono (hh ((Y.land (s₁ := s₁) ea (le₂.trans le3) S7 (F.mono le3) (M.mono le3)).next q7) _ _ _ hx2) (fun f s₈ q => ?_) fun _ _ q => q.elim
  obtain ⟨z, w₈, rfl, q8, hv⟩ := q
  exact wpAny_mono (name_goes Y hl (q8.mono ((hs.trans (.of _ _ s₁.toks)).trans q7.hs)) hv) (fun _ _ q => hQ _ _ q) fun _ _ q => q
theorem sim_try {b h : List S} {k : Nat} {body : List Stmt} {h₀ : Stmt} {suite : List Stmt} {y : Str} {np hp : Pos} (hx : ExcCls G x D) (hg : cx.isGlob (Str.ofString x) = true) (hvis : VisOK cx.vis) (hk : cx.vis.lookup y = some k) (hl : cx.scope.names.lookup y = some .local)
    (hb : SimSs G n cx b body) (hh : SimSs G n cx h (h₀ :: suite)) : SimS G n cx (.tryx b x k h) (.Try body [.ExceptHandler (some (.Name (Str.ofString x) np)) (some y) (h₀ :: suite) hp] [] [] pos) := fun Y fl ρ' σ' hev => by
  have hev := ifn_inv (show (if Y.hd = true then none else catchS (Lw.execs G.P (run G.P n) false false b Y.ρ Y.σ) fun z ρ σ => if G.P.sub z x = true then unbind (Lw.execs G.P (run G.P n) true false h (upd ρ k (.exc z)) σ) else none) = some (fl, ρ', σ') from hev)
  have hb2 : ∀ {r}, Lw.execs G.P (run G.P n) false false b Y.ρ Y.σ = r → Lw.execs G.P (run G.P n) Y.noRaise.hd Y.noRaise.dr b Y.noRaise.ρ Y.noRaise.σ = r := fun e => by show Lw.execs G.P (run G.P n) Y.hd false b Y.ρ Y.σ = _; rw [Bool.eq_false_iff.mpr hev.1]; exact e
  refine wpAny_Try_except (catch_el hev.2 (fun ρ₁ σ₁ e1 e2 => ?_) (fun v ρ₁ σ₁ e1 e2 => ?_) fun x' ρ₁ σ₁ e1 e2 => ?_)
  · cases e2; exact wpAny_mono (hb Y.noRaise _ _ _ (hb2 e1)) (fun f s₁ q => by obtain ⟨rfl, q⟩ := q; exact wpAny_execs_nil ⟨rfl, q⟩) fun _ _ q => q.elim
  · cases e2; exact wpAny_mono (hb Y.noRaise _ _ _ (hb2 e1)) (fun f s₁ q => by obtain ⟨z, w₁, rfl, q⟩ := q; exact ⟨z, w₁, rfl, q⟩) fun _ _ q => q.elim
  · have hs := if_inv e2
    obtain ⟨v, ρ₂, hx2, rfl, rfl⟩ := unbind_inv hs.2
    refine wpAny_mono (hb Y.noRaise _ _ _ (hb2 e1)) (fun _ _ q => q.elim) fun e s₁ q => qxs_el q fun ea C a0 B w₂ he hC le₂ hsm S F M hfl hB => ?_
    subst he
    exact wpAny_looks_onW Y.fr M.frm hfl fun h₄ hf4 u4 => wpAny_landsW hf4 fun h₅ hf5 u5 => try_handle (s₁ := s₁) hx hg hvis hk hl hh Y hC le₂ hsm S F M hfl hB hf5 (u4.trans u5) hs.1 hx2 fun _ _ q => q
end
end Lw
namespace Lw
open PySem PySem.W PySem.Calls PyProof.Rows
structure Stc (G : Gl) (n : Nat) (cx : Cxt) : Prop where
  fcall : ∀ f, f ∈ cx.fns → ∃ a, nsIn G.K mainGlobals (Str.ofString f) = some (some (.ref a)) ∧ keepIn G.K (.ref a) = true ∧ SimC G n "" f a
  new : ∀ k, k ∈ cx.cls → k ∈ G.com.cls ∧ ∃ C a, clsAt G.K k = some C ∧ keepIn G.K (.ref C) = true ∧ MethAt G.K k "__init__" a ∧ SimC G n k "__init__" a
  meth : ∀ cc m fn, cc ∈ G.com.cls → G.P.fns cc m = some fn → ∃ a, MethAt G.K cc m a ∧ SimC G n cc m a
  exc : ∀ k, k ∈ cx.excs → k ∈ G.com.excs ∧ ∃ C, clsAt G.K k = some C
  bfn : ∀ x, x ∈ cx.bifs → nsIn G.K mainGlobals (Str.ofString x) = some none
  gi : ∀ x i, (x, i) ∈ cx.gis → ∃ t, nsIn G.K mainGlobals (Str.ofString x) = some (some (.int i t))
  so : SortOk G false
  sp : "sorted2" ∈ cx.bifs → SortOk G true
theorem onB_inv {α : Type} {o : Option α} {f : α → Bool} (h : onB o f = true) : ∃ a, o = some a ∧ f a = true := by
  cases o with
  | none => exact noB h
  | some a => exact ⟨a, rfl, h⟩
theorem and_inv {a b : Bool} (h : (a && b) = true) : a = true ∧ b = true := Bool.and_eq_true_iff.mp h
theorem bl {a b : Bool} (h : (a && b) = true) : a = true := (Bool.and_eq_true_iff.mp h).1
theorem br {a b : Bool} (h : (a && b) = true) : b = true := (Bool.and_eq_true_iff.mp h).2
theorem eq_inv {α : Type} [BEq α] [LawfulBEq α] {a b : α} (h : (a == b) = true) : a = b := eq_of_beq h
theorem nil_inv {α : Type} {l : List α} (h : l.isEmpty = true) : l = [] := List.isEmpty_iff.mp h
theorem none_inv {α : Type} {o : Option α} (h : o.isNone = true) : o = none := Option.isNone_iff_eq_none.mp h
section
variable {α : Type}
@[elab_as_elim] theorem eq_el [BEq α] [LawfulBEq α] {b : α} {C : α → Prop} (a : α) (h : (a == b) = true) (H : C b) : C a := (eq_of_beq h).symm ▸ H
@[elab_as_elim] theorem nil_el {C : List α → Prop} (l : List α) (h : l.isEmpty = true) (H : C []) : C l := (nil_inv h).symm ▸ H
@[elab_as_elim] theorem none_el {C : Option α → Prop} (l : Option α) (h : l.isNone = true) (H : C none) : C l := (none_inv h).symm ▸ H
@[elab_as_elim] theorem on_el {C : Option α → Prop} {f : α → Bool} (o : Option α) (h : onB o f = true) (H : ∀ a, f a = true → C (some a)) : C o := by
  cases o with
  | none => exact noB h
  | some a => exact H a h
@[elab_as_elim] theorem one_el {C : List α → Prop} {f : α → Bool} (l : List α) (h : one l f = true) (H : ∀ a, f a = true → C [a]) : C l := by
  rcases l with _ | ⟨b, _ | ⟨d, r⟩⟩
  · exact noB h
  · exact H b h
  · exact noB h
@[elab_as_elim] theorem two_el {C : List α → Prop} {f : α → α → Bool} (l : List α) (h : two l f = true) (H : ∀ a b, f a b = true → C [a, b]) : C l := by
  rcases l with _ | ⟨b, _ | ⟨d, _ | ⟨e, r⟩⟩⟩
  · exact noB h
  · exact noB h
  · exact H b d h
  · exact noB h
end
section
variable {C : Expr → Prop} {B : Const → Prop} {D : Stmt → Prop}
@[elab_as_elim] theorem constX_el {f : Const → Bool} (x : Expr) (h : constX x f = true) (H : ∀ k j p, f k = true → C (.Constant k j p)) : C x := by cases x <;> first | exact noB h | exact H _ _ _ h
@[elab_as_elim] theorem nameX_el {f : Str → Bool} (x : Expr) (h : nameX x f = true) (H : ∀ y p, f y = true → C (.Name y p)) : C x := by cases x <;> first | exact noB h | exact H _ _ h
@[elab_as_elim] theorem binX_el {f : Operator → Expr → Expr → Bool} (x : Expr) (h : binX x f = true) (H : ∀ o l r p, f o l r = true → C (.BinOp l o r p)) : C x := by cases x <;> first | exact noB h | exact H _ _ _ _ h
@[elab_as_elim] theorem cmpX_el {f : Expr → List CmpOp → List Expr → Bool} (x : Expr) (h : cmpX x f = true) (H : ∀ l os rs p, f l os rs = true → C (.Compare l os rs p)) : C x := by cases x <;> first | exact noB h | exact H _ _ _ _ h
@[elab_as_elim] theorem boolX_el {f : BoolOp → List Expr → Bool} (x : Expr) (h : boolX x f = true) (H : ∀ o vs p, f o vs = true → C (.BoolOp o vs p)) : C x := by cases x <;> first | exact noB h | exact H _ _ _ h
@[elab_as_elim] theorem unX_el {f : UnaryOp → Expr → Bool} (x : Expr) (h : unX x f = true) (H : ∀ o v p, f o v = true → C (.UnaryOp o v p)) : C x := by cases x <;> first | exact noB h | exact H _ _ _ h
@[elab_as_elim] theorem callX_el {f : Expr → List Expr → List Keyword → Pos → Bool} (x : Expr) (h : callX x f = true) (H : ∀ g as ks p, f g as ks p = true → C (.Call g as ks p)) : C x := by cases x <;> first | exact noB h | exact H _ _ _ _ h
@[elab_as_elim] theorem attrX_el {f : Expr → Str → Pos → Bool} (x : Expr) (h : attrX x f = true) (H : ∀ o y p, f o y p = true → C (.Attribute o y p)) : C x := by cases x <;> first | exact noB h | exact H _ _ _ h
@[elab_as_elim] theorem subX_el {f : Expr → Expr → Bool} (x : Expr) (h : subX x f = true) (H : ∀ o i p, f o i = true → C (.Subscript o i p)) : C x := by cases x <;> first | exact noB h | exact H _ _ _ h
@[elab_as_elim] theorem sliceX_el {f : Option Expr → Option Expr → Option Expr → Bool} (x : Expr) (h : sliceX x f = true) (H : ∀ a b d p, f a b d = true → C (.Slice a b d p)) : C x := by cases x <;> first | exact noB h | exact H _ _ _ _ h
@[elab_as_elim] theorem listX_el {f : List Expr → Bool} (x : Expr) (h : listX x f = true) (H : ∀ vs p, f vs = true → C (.List vs p)) : C x := by cases x <;> first | exact noB h | exact H _ _ h
@[elab_as_elim] theorem tupX_el {f : List Expr → Bool} (x : Expr) (h : tupX x f = true) (H : ∀ vs j p, f vs = true → C (.Tuple vs j p)) : C x := by cases x <;> first | exact noB h | exact H _ _ _ h
@[elab_as_elim] theorem dictX_el {f : List (Option Expr) → List Expr → Bool} (x : Expr) (h : dictX x f = true) (H : ∀ ks vs p, f ks vs = true → C (.Dict ks vs p)) : C x := by cases x <;> first | exact noB h | exact H _ _ _ h
@[elab_as_elim] theorem compX_el {f : Expr → List Comprehension → Scope → Bool} (x : Expr) (h : compX x f = true) (H : ∀ e gs s p, f e gs s = true → C (.ListComp e gs s p)) : C x := by cases x <;> first | exact noB h | exact H _ _ _ _ h
@[elab_as_elim] theorem noneC_el (k : Const) (h : isNoneC k = true) (H : B .none) : B k := by cases k <;> first | exact noB h | exact H
@[elab_as_elim] theorem boolC_el {f : Bool → Bool} (k : Const) (h : boolC k f = true) (H : ∀ b, f b = true → B (.bool b)) : B k := by cases k <;> first | exact noB h | exact H _ h
@[elab_as_elim] theorem intC_el {f : Int → Bool} (k : Const) (h : intC k f = true) (H : ∀ b, f b = true → B (.int b)) : B k := by cases k <;> first | exact noB h | exact H _ h
@[elab_as_elim] theorem strC_el {f : Str → Bool} (k : Const) (h : strC k f = true) (H : ∀ b, f b = true → B (.str b)) : B k := by cases k <;> first | exact noB h | exact H _ h
@[elab_as_elim] theorem exprX_el {f : Expr → Bool} (s : Stmt) (h : exprX s f = true) (H : ∀ v p, f v = true → D (.Expr v p)) : D s := by cases s <;> first | exact noB h | exact H _ _ h
@[elab_as_elim] theorem assignX_el {f : List Expr → Expr → Bool} (s : Stmt) (h : assignX s f = true) (H : ∀ ts v p, f ts v = true → D (.Assign ts v p)) : D s := by cases s <;> first | exact noB h | exact H _ _ _ h
@[elab_as_elim] theorem ifX_el {f : Expr → List Stmt → List Stmt → Bool} (s : Stmt) (h : ifX s f = true) (H : ∀ e a b p, f e a b = true → D (.If e a b p)) : D s := by cases s <;> first | exact noB h | exact H _ _ _ _ h
@[elab_as_elim] theorem forX_el {f : Expr → Expr → List Stmt → List Stmt → Bool} (s : Stmt) (h : forX s f = true) (H : ∀ t i b e p, f t i b e = true → D (.For t i b e p)) : D s := by cases s <;> first | exact noB h | exact H _ _ _ _ _ h
@[elab_as_elim] theorem retX_el {f : Option Expr → Bool} (s : Stmt) (h : retX s f = true) (H : ∀ v p, f v = true → D (.Return v p)) : D s := by cases s <;> first | exact noB h | exact H _ _ h
@[elab_as_elim] theorem raiseX_el {f : Option Expr → Option Expr → Bool} (s : Stmt) (h : raiseX s f = true) (H : ∀ e d p, f e d = true → D (.Raise e d p)) : D s := by cases s <;> first | exact noB h | exact H _ _ _ h
@[elab_as_elim] theorem tryX_el {f : List Stmt → List ExceptHandler → List Stmt → List Stmt → Bool} (s : Stmt) (h : tryX s f = true) (H : ∀ b hs e d p, f b hs e d = true → D (.Try b hs e d p)) : D s := by cases s <;> first | exact noB h | exact H _ _ _ _ _ h
end
theorem isCNone_eq {e : E} (h : isCNone e = true) : e = .cNone := by cases e <;> first | rfl | exact noB h
theorem isCTrue_eq {e : E} (h : isCTrue e = true) : e = .cBool true := by
  cases e with
  | cBool b => cases b with
    | true => rfl
    | false => exact noB h
  | _ => exact noB h
theorem okKeys_R : ∀ {ks : List Str} {es : List (Option Expr)}, okKeys ks es = true → KeysR ks es
  | [], [], _ => .nil
  | [], _ :: _, h => noB h
  | _ :: _, [], h => noB h
  | k :: ks, e :: r, h => .cons (on_el (C := fun e => ∃ j p, e = some (.Constant (.str k) j p)) e (bl h) fun x h => constX_el (C := fun x => ∃ j p, some x = some (.Constant (.str k) j p)) x h fun c j p h => strC_el c h fun s h => eq_el s h ⟨j, p, rfl⟩) (okKeys_R (br h))
theorem lookup_nodup {β : Type} {l : List (Str × β)} {z : Str × β} (hn : (l.map (·.1)).Nodup) (hz : z ∈ l) : l.lookup z.1 = some z.2 := by
  induction l with
  | nil => exact nomatch hz
  | cons p r ih =>
    obtain ⟨hn1, hn2⟩ := List.nodup_cons.mp hn
    rcases List.mem_cons.mp hz with rfl | hz
    · exact look_self
    · exact (look_cons fun e => hn1 (List.mem_map.mpr ⟨z, hz, e⟩)).trans (ih hn2 hz)
theorem compOk_R {cx : Cxt} {s : Scope} {x : Str} {k : Nat} (h : cx.compOk s x k = true) : CompOK cx s x k := by
  unfold Cxt.compOk at h
  simp only [Bool.and_eq_true, beq_iff_eq, Bool.not_eq_true', decide_eq_true_eq, List.all_eq_true, bne_iff_ne, Bool.or_eq_true] at h
  obtain ⟨⟨⟨⟨⟨⟨⟨⟨⟨_, h2⟩, _⟩, _⟩, _⟩, h6⟩, _⟩, h8⟩, h9⟩, h10⟩ := h
  refine ⟨h2, h6, h8, fun z hz hf => ?_, fun z hz hc => ?_, fun z hz hl => (lookup_nodup h10 hz).trans (congrArg some hl)⟩
  · rcases h9 z hz with (⟨q, _⟩ | ⟨_, q⟩) | q
    · rw [hf] at q; cases q
    · exact q
    · rw [hf] at q; cases q
  · rcases h9 z hz with (⟨q, _⟩ | ⟨q, _⟩) | q <;> rw [hc] at q <;> cases q
section
variable {G : Gl} {n : Nat}
theorem Stc.inner {cx : Cxt} (T : Stc G n cx) (s : Scope) (x : Str) (k : Nat) : Stc G n (cx.inner s x k) := ⟨T.fcall, T.new, T.meth, T.exc, T.bfn, T.gi, T.so, T.sp⟩
noncomputable def TyName (G : Gl) (n : Nat) (cx : Cxt) (t : Ty) (p2 : Pos) : Prop := ∃ tv, tyVal G.K t = some tv ∧ ∀ (X : Pt G n cx) (Ex Q : Value → Shared → Prop), Q tv X.s → wpAny G.M X.A (eval (.Name (Str.ofString (tyName t)) p2) X.env) Q Ex X.s
theorem Stc.tybi {cx : Cxt} {t : Ty} {p2 : Pos} {tv : Value} (T : Stc G n cx) (hg : cx.isGlob (Str.ofString (tyName t)) = true) (ht : cx.bifs.contains (tyName t) = true) (hv : tyVal G.K t = some tv) (hb : bootBuiltins (Str.ofString (tyName t)) = some tv) (hx : Str.ofString (tyName t) ≠ "__name__") : TyName G n cx t p2 :=
  ⟨tv, hv, fun X _ _ hQ => glob_bi X hg (T.bfn _ (List.contains_iff_mem.mp ht)) hb hx hQ⟩
theorem Stc.tyname {cx : Cxt} {t : Ty} {p2 : Pos} (T : Stc G n cx) (hg : cx.isGlob (Str.ofString (tyName t)) = true) (ht : tyOk cx t = true) : TyName G n cx t p2 := by
  cases t with
  | own k =>
    have : ∃ C, clsAt G.K k = some C := by
      rcases Bool.or_eq_true_iff.mp ht with q | q
      · obtain ⟨_, C, _, e, _⟩ := T.new k (List.contains_iff_mem.mp q); exact ⟨C, e⟩
      · exact (T.exc k (List.contains_iff_mem.mp q)).2
    obtain ⟨C, hC⟩ := this
    exact ⟨.ref C, congrArg (Option.map Value.ref) hC, fun X Ex Q hQ => glob_name X hg (clsAt_inv hC) hQ⟩
  | int => exact T.tybi hg ht rfl (by kernel_rfl) (by decide)
  | bool => exact T.tybi hg ht rfl (by kernel_rfl) (by decide)
  | str => exact T.tybi hg ht rfl (by kernel_rfl) (by decide)
  | tuple => exact T.tybi hg ht rfl (by kernel_rfl) (by decide)
  | list => exact T.tybi hg ht rfl (by kernel_rfl) (by decide)
  | valueError => exact T.tybi hg ht rfl (by kernel_rfl) (by decide)
theorem Stc.tyin {cx : Cxt} {t : Ty} (T : Stc G n cx) (ht : tyOk cx t = true) : ∀ d, t = .own d → d ∈ G.com.excs ∨ d ∈ G.com.cls := fun d e => by
  subst e
  rcases Bool.or_eq_true_iff.mp ht with q | q
  · exact .inr (T.new d (List.contains_iff_mem.mp q)).1
  · exact .inl (T.exc d (List.contains_iff_mem.mp q)).1
noncomputable def CompR (G : Gl) (n : Nat) (cx : Cxt) (elt : E) (k : Nat) (it cond : E) (x : Expr) : Prop := ∃ ee y px ie ifs scope pos, x = .ListComp ee [⟨.Name y px, ie, ifs, 0⟩] scope pos ∧ notSetE ie = true ∧ CompOK cx scope y k ∧ Sim G n cx it ie ∧ Sim G n (cx.inner scope y k) elt ee ∧
  ((ifs = [] ∧ cond = .cBool true) ∨ ∃ e, ifs = [e] ∧ Sim G n (cx.inner scope y k) cond e)
theorem CompR.sim {cx : Cxt} {mt : Bool} {elt it cond : E} {k : Nat} {x : Expr} (h : CompR G n cx elt k it cond x) : Sim G n cx (.comp mt elt k it cond) x := by
  obtain ⟨ee, y, px, ie, ifs, scope, pos, rfl, h1, h2, h3, h4, h5⟩ := h
  exact sim_comp h1 h2 h3 h4 h5
theorem SimP.of {cx : Cxt} {a : E} {l : Option Expr} (h : optB l (isCNone a) (fun e => okE cx a e) = true) (k : ∀ e, okE cx a e = true → Sim G n cx a e) : SimP G n cx a l := by
  cases l with
  | none => exact .inl ⟨rfl, isCNone_eq h⟩
  | some e => exact .inr ⟨e, rfl, k e h⟩
theorem compL_R {cx : Cxt} {elt it cond : E} {k : Nat} {x : Expr} (h : okE cx (.comp true elt k it cond) x = true) (k1 : ∀ e, okE cx it e = true → Sim G n cx it e) (k2 : ∀ s y e, okE (cx.inner s y k) elt e = true → Sim G n (cx.inner s y k) elt e) (k3 : ∀ s y e, okE (cx.inner s y k) cond e = true → Sim G n (cx.inner s y k) cond e) : CompR G n cx elt k it cond x :=
  compX_el x h fun ee gs scope p h => one_el gs h fun ⟨tg, ie, ifs, asy⟩ h => nameX_el tg h fun y px h => eq_el asy (bl h)
    ⟨ee, y, px, ie, ifs, scope, p, rfl, bl (br h), compOk_R (bl (br (br h))), k1 _ (bl (br (br (br h)))), k2 _ _ _ (bl (br (br (br (br h))))), (Bool.or_eq_true_iff.mp (br (br (br (br (br h)))))).imp (fun q => ⟨nil_inv (bl q), isCTrue_eq (br q)⟩) fun q => one_el (C := fun ifs => ∃ e, ifs = [e] ∧ Sim G n (cx.inner scope y k) cond e) ifs q fun e q => ⟨e, rfl, k3 _ _ _ q⟩⟩
end
end Lw
namespace Lw
open PySem PySem.W PySem.Calls PyProof.Rows
section
variable {G : Gl} {n : Nat}
theorem ne_nil {α : Type} {ks : List α} (h : (!ks.isEmpty) = true) (e : ks = []) : False := by rw [e] at h; cases h
theorem bsort {cx : Cxt} {f : Bf} (T : Stc G n cx) (h : (!f.pairs || cx.bifs.contains "sorted2") = true) (pr mt : Bool) (e : f = .sorted pr mt) : SortOk G pr := by
  subst e
  cases pr with
  | false => exact T.so
  | true => exact T.sp (List.contains_iff_mem.mp h)
mutual
theorem okE_sim : ∀ (e : E) (cx : Cxt) (x : Expr), Stc G n cx → okE cx e x = true → Sim G n cx e x
  | .cNone, cx, x, T, h => constX_el x h fun k _ _ h => noneC_el k h sim_cNone
  | .cBool b, cx, x, T, h => constX_el x h fun k _ _ h => boolC_el k h fun i h => eq_el i h sim_cBool
  | .cInt b, cx, x, T, h => constX_el x h fun k _ _ h => intC_el k h fun i h => eq_el i h sim_cInt
  | .cStr b, cx, x, T, h => constX_el x h fun k _ _ h => strC_el k h fun i h => eq_el i (bl h) (sim_cStr (br h))
  | .var k, cx, x, T, h => nameX_el x h fun y _ h => sim_var (eq_inv (bl h)) (bl (br h)) ((Bool.not_eq_true' _).mp (bl (br (br h)))) ((Bool.not_eq_true' _).mp (br (br (br h))))
  | .gint g i, cx, x, T, h => nameX_el x h fun y _ h => (T.gi g i (List.contains_iff_mem.mp (br (br h)))).elim fun t ht => eq_el y (bl h) (fun h2 => sim_gint h2 ht) (bl (br h))
  | .bin op a b, cx, x, T, h => binX_el x h fun o l r _ h => eq_el o (bl h) (sim_bin (okE_sim a cx l T (bl (br h))) (okE_sim b cx r T (br (br h))))
  | .cmp op a b, cx, x, T, h => cmpX_el x h fun l os rs _ h => one_el os h fun o h => one_el rs h fun r h => eq_el o (bl h) (sim_cmp (bl (br h)) (okE_sim a cx l T (bl (br (br h)))) (okE_sim b cx r T (br (br (br h)))))
  | .chain a b d, cx, x, T, h => cmpX_el x h fun l os rs _ h => two_el os h fun o1 o2 h => two_el rs h fun r1 r2 h => eq_el o1 (bl h) (eq_el o2 (bl (br h)) (sim_chain (bl (br (br h))) (okE_sim a cx l T (bl (br (br (br h))))) (okE_sim b cx r1 T (bl (br (br (br (br h)))))) (okE_sim d cx r2 T (br (br (br (br (br h))))))))
  | .isNone a, cx, x, T, h => cmpX_el x h fun l os rs _ h => one_el os h fun o h => one_el rs h fun r h => eq_el o (bl h) (constX_el r (bl (br h)) fun k _ _ h' => noneC_el k h' (sim_isNone (okE_sim a cx l T (br (br h)))))
  | .notNone a, cx, x, T, h => cmpX_el x h fun l os rs _ h => one_el os h fun o h => one_el rs h fun r h => eq_el o (bl h) (constX_el r (bl (br h)) fun k _ _ h' => noneC_el k h' (sim_notNone (okE_sim a cx l T (br (br h)))))
  | .bool isAnd es, cx, x, T, h => boolX_el x h fun o vs _ h => eq_el (b := opB isAnd) o (bl h) (sim_bool (okEs_sim es cx vs T (br h)))
  | .not a, cx, x, T, h => unX_el x h fun o v _ h => eq_el o (bl h) (sim_not (okE_sim a cx v T (br h)))
  | .neg a, cx, x, T, h => unX_el x h fun o v _ h => eq_el o (bl h) (sim_neg (okE_sim a cx v T (br h)))
  | .fcall f args, cx, x, T, h => callX_el x h fun g as ks _ h => nameX_el g h fun y _ h => eq_el y (bl h) (nil_el ks (bl (br (br (br h)))) ((T.fcall f (List.contains_iff_mem.mp (bl (br (br h))))).elim fun _ e => sim_fcall (bl (br h)) e.1 e.2.1 e.2.2 (okEs_sim args cx as T (br (br (br (br h)))))))
  | .new k args kwn kwe, cx, x, T, h => callX_el x h fun g as ks _ h => nameX_el g h fun y _ h => eq_el y (bl h) ((T.new k (List.contains_iff_mem.mp (bl (br (br h))))).elim fun e0 e => e.elim fun _ e => e.elim fun _ e => sim_new (bl (br h)) e0 e.1 e.2.1 e.2.2.1 e.2.2.2 (okEs_sim args cx as T (bl (br (br (br h))))) (okKs_sim kwe kwn cx ks T (br (br (br (br h))))))
  | .mcall o m args kwn kwe, cx, x, T, h => callX_el x h fun g as ks p h => attrX_el g h fun u y q h => eq_el y (bl h) (sim_mcall (bl (br h)) (bl (br (br h))) (of_decide_eq_true (bl (br (br (br h))))) (of_decide_eq_true (bl (br (br (br (br h)))))) (fun cc fn hcc hfn => T.meth cc m fn hcc hfn) (okE_sim o cx u T (bl (br (br (br (br (br h))))))) (okEs_sim args cx as T (bl (br (br (br (br (br (br h)))))))) (okKs_sim kwe kwn cx ks T (br (br (br (br (br (br (br h)))))))))
  | .bcall f args, cx, x, T, h => callX_el x h fun g as ks _ h => nameX_el g h fun y _ h => eq_el y (bl h) (nil_el ks (bl (br (br (br (br h))))) (sim_bcall (bsort T (bl (br (br (br h))))) (bl (br h)) (T.bfn _ (List.contains_iff_mem.mp (bl (br (br h))))) (okEs_sim args cx as T (br (br (br (br (br h))))))))
  | .bmeth m o args, cx, x, T, h => callX_el x h fun g as ks p h => attrX_el g h fun u y q h => eq_el y (bl h) (nil_el ks (bl (br (br (br (br h))))) (sim_bmeth (bl (br h)) (bl (br (br h))) (of_decide_eq_true (bl (br (br (br h))))) (okE_sim o cx u T (bl (br (br (br (br (br h))))))) (okEs_sim args cx as T (br (br (br (br (br (br h)))))))))
  | .isinst a t, cx, x, T, h => callX_el x h fun g as ks _ h => nameX_el g h fun y _ h => two_el as h fun v1 v2 h => nameX_el v2 h fun z p2 h => eq_el y (bl h) (eq_el z (bl (br (br (br (br h))))) (nil_el ks (bl (br (br (br (br (br (br (br h)))))))) ((T.tyname (p2 := p2) (bl (br (br (br (br (br h)))))) (bl (br (br (br (br (br (br h)))))))).elim fun _ e => sim_isinst (bl (br h)) (T.bfn "isinstance" (List.contains_iff_mem.mp (bl (br (br h))))) (bl (br (br (br h)))) e.1 (T.tyin (bl (br (br (br (br (br (br h)))))))) e.2 (okE_sim a cx v1 T (br (br (br (br (br (br (br (br h)))))))))))) 
  | .attr o a, cx, x, T, h => attrX_el x h fun u y _ h => eq_el y (bl h) (sim_attr (bl (br (br h))) (bl (br h)) (okE_sim o cx u T (br (br (br h)))))
  | .idx o i, cx, x, T, h => subX_el x h fun l r _ h => sim_idx (bl h) (okE_sim o cx l T (bl (br h))) (okE_sim i cx r T (br (br h)))
  | .slice mt o lo hi, cx, x, T, h => subX_el x h fun l r _ h => sliceX_el r h fun a b d _ h => none_el d (bl h) (sim_slice (okE_sim o cx l T (bl (br h))) (.of (bl (br (br h))) fun e => okE_sim lo cx e T) (.of (br (br (br h))) fun e => okE_sim hi cx e T))
  | .list mt es, cx, x, T, h => listX_el x h fun vs _ h => sim_list (okEs_sim es cx vs T h)
  | .tup es, cx, x, T, h => tupX_el x h fun vs _ _ h => sim_tup (okEs_sim es cx vs T h)
  | .dict0 b, cx, x, T, h => dictX_el x h fun ks vs _ h => nil_el ks (bl h) (nil_el vs (br h) sim_dict0)
  | .dict ks vs, cx, x, T, h => dictX_el x h fun ke ve _ h => sim_dict (okKeys_R (bl (br (br (br h))))) (okEs_sim vs cx ve T (br (br (br (br (br (br h))))))) (eq_inv (bl (br (br h)))).symm (ne_nil (bl h)) (of_decide_eq_true (bl (br h))) (of_decide_eq_true (bl (br (br (br (br (br h))))))) (List.all_eq_true.mp (bl (br (br (br (br h))))))
  | .comp mt elt k it cond, cx, x, T, h => CompR.sim (compL_R h (fun e => okE_sim it cx e T) (fun s y e => okE_sim elt _ e (T.inner s y k)) fun s y e => okE_sim cond _ e (T.inner s y k))
termination_by structural e => e
theorem okEs_sim : ∀ (es : List E) (cx : Cxt) (xs : List Expr), Stc G n cx → okEs cx es xs = true → Sims G n cx es xs
  | [], cx, [], T, h => .nil
  | [], cx, _ :: _, T, h => noB h
  | _ :: _, cx, [], T, h => noB h
  | a :: r, cx, x :: xs, T, h => .cons ⟨bl h, okE_sim a cx x T (bl (br h))⟩ (okEs_sim r cx xs T (br (br h)))
termination_by structural es => es
theorem okKs_sim : ∀ (es : List E) (kn : List String) (cx : Cxt) (ks : List Keyword), Stc G n cx → okKs cx kn es ks = true → SimKs G n cx kn es ks
  | [], [], cx, [], T, h => .nil
  | [], _ :: _, cx, _, T, h => noB h
  | [], [], cx, _ :: _, T, h => noB h
  | _ :: _, [], cx, _, T, h => noB h
  | _ :: _, _ :: _, cx, [], T, h => noB h
  | a :: r, y :: ys, cx, ⟨arg, e, p⟩ :: ks, T, h => eq_el arg (bl h) (.cons (okE_sim a cx e T (bl (br h))) (okKs_sim r ys cx ks T (br (br h))))
termination_by structural es => es
end
theorem tgt_inv {cx : Cxt} {x : Str} {k : Nat} (h : cx.tgt x k = true) : cx.vis.lookup x = some k ∧ (cx.scope.names.lookup x = some .local ∨ cx.scope.names.lookup x = some .cell) :=
  let ⟨h1, h2⟩ := and_inv h
  ⟨eq_inv h1, (Bool.or_eq_true_iff.mp h2).imp eq_inv eq_inv⟩
theorem tgtL_inv {cx : Cxt} {x : Str} {k : Nat} (h : cx.tgtL x k = true) : cx.vis.lookup x = some k ∧ cx.scope.names.lookup x = some .local := let ⟨h1, h2⟩ := and_inv h; ⟨eq_inv h1, eq_inv h2⟩
theorem assign_sim {cx : Cxt} {e : E} {k : Nat} {x : Str} {v : Expr} {p pos : Pos} (T : Stc G n cx) (V : VisOK cx.vis) (ht : cx.tgt x k = true) (hc : (notComp v || isComp e) = true) (h : okE cx e v = true) : SimS G n cx (.assign k e) (.Assign [.Name x p] v pos) := by
  cases hn : notComp v with
  | true => exact sim_assign V (tgt_inv ht).1 (tgt_inv ht).2 hn (okE_sim e cx v T h)
  | false =>
    rw [hn] at hc
    cases e with
    | comp mt elt k' it cond =>
      obtain ⟨ee, y, px, ie, ifs, scope, cpos, rfl, h1, h2, h3, h4, h5⟩ := compL_R (G := G) (n := n) (k := k') (elt := elt) (it := it) (cond := cond) h (fun e => okE_sim it cx e T) (fun s y e => okE_sim elt _ e (T.inner s y k')) fun s y e => okE_sim cond _ e (T.inner s y k')
      exact sim_assignC V (tgt_inv ht).1 (tgt_inv ht).2 h1 h2 h3 h4 h5
    | _ => exact noB hc
theorem raise_sim {cx : Cxt} {e : String} {m : Str} {np cpos p pos : Pos} {j : Nat} (hx : e ∈ G.com.excs ∧ ∃ C, clsAt G.K e = some C) (hg : cx.isGlob (Str.ofString e) = true) (hm : sOk m = true) : SimS G n cx (.raise e m) (.Raise (some (.Call (.Name (Str.ofString e) np) [.Constant (.str m) j p] [] cpos)) none pos) :=
  hx.2.elim fun _ hC => sim_raise ⟨hx.1, hC⟩ hg hm
theorem try_sim {cx : Cxt} {b h : List S} {k : Nat} {e : String} {body hb : List Stmt} {y : Str} {np hp pos : Pos} (hx : e ∈ G.com.excs ∧ ∃ C, clsAt G.K e = some C) (hg : cx.isGlob (Str.ofString e) = true) (V : VisOK cx.vis) (ht : cx.tgtL y k = true) (hne : (!hb.isEmpty) = true)
    (h1 : SimSs G n cx b body) (h2 : SimSs G n cx h hb) : SimS G n cx (.tryx b e k h) (.Try body [.ExceptHandler (some (.Name (Str.ofString e) np)) (some y) hb hp] [] [] pos) := by
  cases hb with
  | nil => exact noB hne
  | cons b0 rest => exact hx.2.elim fun _ hC => sim_try ⟨hx.1, hC⟩ hg V (tgtL_inv ht).1 (tgtL_inv ht).2 h1 h2
mutual
theorem okS_sim : ∀ (s : S) (cx : Cxt) (x : Stmt), Stc G n cx → VisOK cx.vis → okS cx s x = true → SimS G n cx s x
  | .expr e, cx, x, T, V, h => exprX_el x h fun v _ h => sim_expr (bl h) (okE_sim e cx v T (br h))
  | .assign k e, cx, x, T, V, h => assignX_el x h fun ts v _ h => one_el ts h fun g h => nameX_el g h fun y _ h => assign_sim T V (bl h) (bl (br h)) (br (br h))
  | .setattr o a e, cx, x, T, V, h => assignX_el x h fun ts v _ h => one_el ts h fun g h => attrX_el g h fun u y _ h => eq_el y (bl h) (sim_setattr (bl (br h)) (bl (br (br h))) (okE_sim o cx u T (bl (br (br (br h))))) (okE_sim e cx v T (br (br (br (br h))))))
  | .setidx o i e, cx, x, T, V, h => assignX_el x h fun ts v _ h => one_el ts h fun g h => subX_el g h fun l r _ h => sim_setidx (bl h) (okE_sim o cx l T (bl (br h))) (okE_sim i cx r T (bl (br (br h)))) (okE_sim e cx v T (br (br (br h))))
  | .ite t a b, cx, x, T, V, h => ifX_el x h fun te as bs _ h => sim_ite (okE_sim t cx te T (bl h)) (okSs_sim a cx as T V (bl (br h))) (okSs_sim b cx bs T V (br (br h)))
  | .for1 k it b, cx, x, T, V, h => forX_el x h fun t i bs es _ h => nameX_el t h fun y _ h => nil_el es (bl (br (br h))) (sim_for1 V (tgt_inv (bl h)).1 (tgt_inv (bl h)).2 (bl (br h)) (okE_sim it cx i T (bl (br (br (br h))))) (okSs_sim b cx bs T V (br (br (br (br h))))))
  | .forZ k1 k2 a b d, cx, x, T, V, h => forX_el x h fun t i bs es _ h => tupX_el t h fun ts _ _ h => two_el ts h fun g1 g2 h => nameX_el g1 h fun y1 _ h => nameX_el g2 h fun y2 _ h => callX_el i h fun g as ks _ h => nameX_el g h fun z _ h => eq_el z (bl h) (nil_el ks (bl (br (br (br (br (br h)))))) (nil_el es (bl (br (br (br (br (br (br h))))))) (sim_forZ V (tgtL_inv (bl (br h))).1 (tgtL_inv (bl (br h))).2 (tgtL_inv (bl (br (br h)))).1 (tgtL_inv (bl (br (br h)))).2 (bl (br (br (br h)))) (T.bfn _ (List.contains_iff_mem.mp (bl (br (br (br (br h))))))) (okEs_sim [a, b] cx as T (bl (br (br (br (br (br (br (br h))))))))) (okSs_sim d cx bs T V (br (br (br (br (br (br (br (br h)))))))))))) 
  | .ret e, cx, x, T, V, h => retX_el x h fun v _ h => on_el v h fun v h => sim_ret (okE_sim e cx v T h)
  | .raise e m, cx, x, T, V, h => raiseX_el x h fun v d _ h => none_el d (bl h) (on_el v (br h) fun v h => callX_el v h fun g as ks _ h => nameX_el g h fun y _ h => one_el as h fun a h => constX_el a h fun k _ _ h => strC_el k h fun u h => eq_el y (bl h) (nil_el ks (bl (br (br (br h)))) (eq_el u (bl (br (br (br (br h))))) (raise_sim (T.exc e (List.contains_iff_mem.mp (bl (br (br h))))) (bl (br h)) (br (br (br (br (br h)))))))))
  | .tryx b e k hs, cx, x, T, V, h => tryX_el x h fun bs hds es ds _ h => nil_el es (bl h) (nil_el ds (bl (br h)) (one_el hds (br (br h)) fun ⟨t, n, hb, _⟩ h => on_el t h fun t h => on_el n h fun n h => nameX_el t h fun z _ h => eq_el z (bl h) (try_sim (T.exc e (List.contains_iff_mem.mp (bl (br (br h))))) (bl (br h)) V (bl (br (br (br h)))) (bl (br (br (br (br h))))) (okSs_sim b cx bs T V (bl (br (br (br (br (br h))))))) (okSs_sim hs cx hb T V (br (br (br (br (br (br h))))))))))
termination_by structural s => s
theorem okSs_sim : ∀ (ss : List S) (cx : Cxt) (xs : List Stmt), Stc G n cx → VisOK cx.vis → okSs cx ss xs = true → SimSs G n cx ss xs
  | [], cx, [], T, V, h => sims_nil
  | [], cx, _ :: _, T, V, h => noB h
  | _ :: _, cx, [], T, V, h => noB h
  | a :: r, cx, x :: xs, T, V, h => sims_cons (okS_sim a cx x T V (bl h)) (okSs_sim r cx xs T V (br h))
termination_by structural ss => ss
end
end
end Lw
namespace Lw
open PySem PySem.W PySem.Calls PyProof.Rows
noncomputable def cxOf (c : Com) (sc : Scope) (vis : List (Str × Nat)) : Cxt := ⟨sc, vis, false, c.fns, c.cls, c.excs, c.attrs, c.bifs, c.gis⟩
noncomputable def refX : Option (Option Value) → Option Addr
  | some (some (.ref a)) => some a
  | _ => none
noncomputable def fnAt (K : Frag) (cc m : String) : Option Addr := if cc = "" then refX (nsIn K mainGlobals (Str.ofString m)) else onO (clsAt K cc) fun C => refX (findIn K (.ref C) (Str.ofString m))
noncomputable def constsOk : List V → List Value → Bool
  | [], [] => true
  | .none :: r, .none :: xs => constsOk r xs
  | .int i :: r, .int j _ :: xs => i == j && constsOk r xs
  | _, _ => false
noncomputable def seqX : Option Obj → Option (Array Value)
  | some ⟨_, _, .seq its _, _⟩ => some its
  | _ => none
noncomputable def dflOk (K : Frag) (d : Value) (vs : List V) : Bool := match d with
  | .none => vs.isEmpty
  | .ref T => onB (seqX (K.lookup T)) fun its => constsOk vs its.toList
  | _ => false
noncomputable def stmtsX : FuncBody → Option (List Stmt)
  | .stmts b => some b
  | _ => none
noncomputable def headOk (K : Frag) (fn : Fn) (vis : List (Str × Nat)) (fd : FuncData) : Bool :=
  codeIn K fd.code fd.qualname && ((fd.scope.kind == .function) && (!fd.scope.isCoroutine && (!fd.scope.isGenerator && (fd.closure.isEmpty && ((fd.globals == mainGlobals) && ((fd.builtins == builtinsNs) &&
  (fd.params.posonlyargs.isEmpty && (fd.params.kwonlyargs.isEmpty && (fd.params.vararg.isNone && (fd.params.kwarg.isNone && ((fd.params.args.map (·.arg) == fn.params.map Str.ofString) && (decide fn.params.Nodup &&
  (decide (fn.defaults.length ≤ fn.params.length) && (dflOk K fd.defaults fn.defaults && (fn.params.zipIdx.all (fun p => vis.lookup (Str.ofString p.1) == some p.2) && (decide (vis.map (·.2)).Nodup &&
  fn.params.all (fun p => fd.scope.names.lookup (Str.ofString p) == some .local || fd.scope.names.lookup (Str.ofString p) == some .cell)))))))))))))))))
noncomputable def funcX : Option Obj → Option FuncData
  | some ⟨_, _, .func fd, _⟩ => some fd
  | _ => none
noncomputable def entOk (K : Frag) (com : Com) (e : Ent) : Bool := onB (fnAt K e.cc e.m) fun a => (typeIn K (.ref a) == some (.type "function")) && (keepIn K (.ref a) && onB (funcX (K.lookup a)) fun fd => headOk K e.fn e.vis fd && onB (stmtsX fd.body) fun body => okSs (cxOf com fd.scope e.vis) e.fn.body body)
noncomputable def comOk (K : Frag) (com : Com) (sub : String → String → Bool) (T : List Ent) : Bool :=
  com.fns.all (fun f => (tblFns T "" f).isSome) && (com.cls.all (fun k => !(k == "") && ((tblFns T k "__init__").isSome && onB (clsAt K k) fun C => clsOk K com.attrs C && keepIn K (.ref C))) &&
  (com.excs.all (fun k => excOk K sub (com.excs ++ com.cls) k) && (com.bifs.all (fun x => nsIn K mainGlobals (Str.ofString x) == some none) && com.gis.all fun x => match nsIn K mainGlobals (Str.ofString x.1) with | some (some (.int j _)) => x.2 == j | _ => false)))
theorem tblFns_some {T : List Ent} {c m : String} {fn : Fn} (h : tblFns T c m = some fn) : ∃ e ∈ T, e.cc = c ∧ e.m = m ∧ e.fn = fn := by
  obtain ⟨e, he, rfl⟩ := Option.map_eq_some_iff.mp h
  have h0 := List.find?_some (p := fun e : Ent => e.cc == c && e.m == m) he
  obtain ⟨h1, h2⟩ := and_inv h0
  exact ⟨e, List.mem_of_find?_eq_some he, eq_inv h1, eq_inv h2, rfl⟩
section
variable {G : Gl} {w : Wd}
theorem constsOk_R {vs : List V} : ∀ {xs : List Value}, constsOk vs xs = true → VRs G w vs xs := by
  induction vs with
  | nil =>
    intro xs h
    cases xs with
    | nil => exact .nil
    | cons => exact noB h
  | cons v r ih =>
    intro xs h
    cases xs with
    | nil => cases v <;> exact noB h
    | cons x xs =>
      cases v with
      | none => cases x with
        | none => exact .cons .none (ih h)
        | _ => exact noB h
      | int i => cases x with
        | int j t =>
          have h := and_inv (show (i == j && constsOk r xs) = true from h)
          cases eq_inv h.1
          exact .cons (.int _ _) (ih h.2)
        | _ => exact noB h
      | _ => exact noB h
theorem visOK_of {vis : List (Str × Nat)} (h : (vis.map (·.2)).Nodup) : VisOK vis := by
  intro x y k hx hy
  have : ∀ {l : List (Str × Nat)}, (l.map (·.2)).Nodup → (x, k) ∈ l → (y, k) ∈ l → x = y := by
    intro l
    induction l with
    | nil => exact fun _ h => nomatch h
    | cons p r ih =>
      intro hn hx hy
      obtain ⟨n1, n2⟩ := List.nodup_cons.mp hn
      rcases List.mem_cons.mp hx with e1 | e1 <;> rcases List.mem_cons.mp hy with e2 | e2
      · rw [← e1] at e2; cases e2; rfl
      · subst e1; exact absurd (List.mem_map.mpr ⟨_, e2, rfl⟩) n1
      · subst e2; exact absurd (List.mem_map.mpr ⟨_, e1, rfl⟩) n1
      · exact ih n2 e1 e2
  exact this h (mem_lookup hx) (mem_lookup hy)
theorem refX_inv {o : Option (Option Value)} {a : Addr} (h : refX o = some a) : o = some (some (.ref a)) := by
  rcases o with _ | _ | v
  · exact no h
  · exact no h
  · cases v <;> first | exact no h | (cases h; rfl)
theorem funcX_inv {o : Option Obj} {fd : FuncData} (h : funcX o = some fd) : ∃ oc od sl, o = some ⟨oc, od, .func fd, sl⟩ := by
  rcases o with _ | ⟨oc, od, d, sl⟩
  · exact no h
  · cases d <;> first | exact no h | (cases h; exact ⟨_, _, _, rfl⟩)
theorem seqX_inv {o : Option Obj} {xs : Array Value} (h : seqX o = some xs) : ∃ y k, o = some y ∧ y.data = .seq xs k := by
  rcases o with _ | ⟨oc, od, d, sl⟩
  · exact no h
  · cases d <;> first | exact no h | (cases h; exact ⟨_, _, rfl, rfl⟩)
theorem stmtsX_inv {b : FuncBody} {l : List Stmt} (h : stmtsX b = some l) : b = .stmts l := by cases b <;> first | exact no h | (cases h; rfl)
theorem dfl_R {d : Value} {vs : List V} (h : dflOk G.K d vs = true) : (d = .none ∧ vs = []) ∨ ∃ T o its k, d = .ref T ∧ G.K.lookup T = some o ∧ o.data = .seq its k ∧ ∀ w, VRs G w vs its.toList := by
  cases d with
  | none => exact .inl ⟨rfl, nil_inv h⟩
  | ref T =>
    obtain ⟨its, e, h⟩ := onB_inv h
    obtain ⟨y, k, e1, e2⟩ := seqX_inv e
    exact .inr ⟨T, y, its, k, rfl, e1, e2, fun w => constsOk_R h⟩
  | _ => exact noB h
theorem not_inv' {b : Bool} (h : (!b) = true) : b = false := (Bool.not_eq_true' b).mp h
theorem entOk_facts {e : Ent} (h : entOk G.K G.com e = true) : ∃ a fd body, fnAt G.K e.cc e.m = some a ∧ typeIn G.K (.ref a) = some (.type "function") ∧ keepIn G.K (.ref a) = true ∧
    FnFacts G e.fn a fd body (cxOf G.com fd.scope e.vis) ∧ okSs (cxOf G.com fd.scope e.vis) e.fn.body body = true := by
  obtain ⟨a, ha, h0⟩ := onB_inv h
  obtain ⟨fd, hf, h1⟩ := onB_inv (br (br h0))
  obtain ⟨body, e1, hb⟩ := onB_inv (br h1)
  have h := bl h1
  exact ⟨a, fd, body, ha, eq_inv (bl h0), bl (br h0), ⟨funcX_inv hf, stmtsX_inv e1, (bl h), eq_inv (bl (br h)), not_inv' (bl (br (br h))), not_inv' (bl (br (br (br h)))), nil_inv (bl (br (br (br (br h))))), eq_inv (bl (br (br (br (br (br h)))))), eq_inv (bl (br (br (br (br (br (br h))))))), nil_inv (bl (br (br (br (br (br (br (br h)))))))), nil_inv (bl (br (br (br (br (br (br (br (br h))))))))), none_inv (bl (br (br (br (br (br (br (br (br (br h)))))))))), none_inv (bl (br (br (br (br (br (br (br (br (br (br h))))))))))), eq_inv (bl (br (br (br (br (br (br (br (br (br (br (br h)))))))))))), of_decide_eq_true (bl (br (br (br (br (br (br (br (br (br (br (br (br h))))))))))))), of_decide_eq_true (bl (br (br (br (br (br (br (br (br (br (br (br (br (br h)))))))))))))), dfl_R (bl (br (br (br (br (br (br (br (br (br (br (br (br (br (br h))))))))))))))), rfl, rfl, rfl,
    fun j p hp => eq_inv (List.all_eq_true.mp (bl (br (br (br (br (br (br (br (br (br (br (br (br (br (br (br h)))))))))))))))) (p, j) (List.mem_zipIdx_iff_getElem?.mpr hp)), visOK_of (of_decide_eq_true (bl (br (br (br (br (br (br (br (br (br (br (br (br (br (br (br (br h)))))))))))))))))), fun p hp => (Bool.or_eq_true_iff.mp (List.all_eq_true.mp (br (br (br (br (br (br (br (br (br (br (br (br (br (br (br (br (br h))))))))))))))))) p hp)).imp eq_inv eq_inv⟩, hb⟩
theorem fnAt_glob {m : String} {a : Addr} (h : fnAt G.K "" m = some a) : nsIn G.K mainGlobals (Str.ofString m) = some (some (.ref a)) := refX_inv ((if_pos rfl).symm.trans h)
theorem fnAt_meth {cc m : String} {a : Addr} (hne : cc ≠ "") (h : fnAt G.K cc m = some a) (ht : typeIn G.K (.ref a) = some (.type "function")) (hk : keepIn G.K (.ref a) = true) : MethAt G.K cc m a := by
  obtain ⟨C, hC, h⟩ := onO_inv ((if_neg hne).symm.trans h)
  exact ⟨C, hC, refX_inv h, ht, hk⟩
structure ComR (G : Gl) (T : List Ent) : Prop where
  fns : ∀ f ∈ G.com.fns, ∃ fn, tblFns T "" f = some fn
  cls : ∀ k ∈ G.com.cls, k ≠ "" ∧ (∃ fn, tblFns T k "__init__" = some fn) ∧ ∃ C, clsAt G.K k = some C ∧ clsOk G.K G.com.attrs C = true ∧ keepIn G.K (.ref C) = true
  exc : ∀ k ∈ G.com.excs, excOk G.K G.P.sub (G.com.excs ++ G.com.cls) k = true
  bfn : ∀ x ∈ G.com.bifs, nsIn G.K mainGlobals (Str.ofString x) = some none
  gi : ∀ x i, (x, i) ∈ G.com.gis → ∃ t, nsIn G.K mainGlobals (Str.ofString x) = some (some (.int i t))
theorem com_R {T : List Ent} (h : comOk G.K G.com G.P.sub T = true) : ComR G T := by
  obtain ⟨c1, h⟩ := and_inv h
  obtain ⟨c2, h⟩ := and_inv h
  obtain ⟨c3, h⟩ := and_inv h
  obtain ⟨c4, c5⟩ := and_inv h
  refine ⟨fun f hf => Option.isSome_iff_exists.mp (List.all_eq_true.mp c1 f hf), fun k hk => ?_, fun k hk => List.all_eq_true.mp c3 k hk, fun x hx => eq_inv (List.all_eq_true.mp c4 x hx), fun x i hx => ?_⟩
  · obtain ⟨d1, d⟩ := and_inv (List.all_eq_true.mp c2 k hk)
    obtain ⟨d2, d⟩ := and_inv d
    obtain ⟨C, hC, d⟩ := onB_inv d
    obtain ⟨d3, d4⟩ := and_inv d
    exact ⟨(fun e => by rw [e] at d1; cases d1), Option.isSome_iff_exists.mp d2, C, hC, d3, d4⟩
  · have := List.all_eq_true.mp c5 (x, i) hx
    dsimp only at this
    split at this
    · rename_i j t hj; cases (eq_inv this : i = j); exact ⟨t, hj⟩
    · cases this
theorem exc_cls {k : String} (h : excOk G.K G.P.sub (G.com.excs ++ G.com.cls) k = true) : ∃ C, clsAt G.K k = some C := by
  unfold excOk at h
  split at h
  · rename_i C e; exact ⟨C, e⟩
  · cases h
theorem prog_sim {T : List Ent} {sub : String → String → Bool} (hP : G.P = progOf T sub) (hT : T.all (entOk G.K G.com) = true) (C : ComR G T) (hso : SortOk G false) (hsp : "sorted2" ∈ G.com.bifs → SortOk G true) : ∀ (n : Nat) (cc m : String) (fn : Fn), tblFns T cc m = some fn →
    ∃ a, fnAt G.K cc m = some a ∧ typeIn G.K (.ref a) = some (.type "function") ∧ keepIn G.K (.ref a) = true ∧ SimC G n cc m a := by
  intro n
  induction n with
  | zero =>
    intro cc m fn hfn
    obtain ⟨e, he, rfl, rfl, rfl⟩ := tblFns_some hfn
    obtain ⟨a, fd, body, h1, h2, h3, _⟩ := entOk_facts (List.all_eq_true.mp hT e he)
    exact ⟨a, h1, h2, h3, fun Z args kvs kn xs ys r σ' hev => no hev⟩
  | succ n ih =>
    intro cc m fn hfn
    obtain ⟨e, he, rfl, rfl, rfl⟩ := tblFns_some hfn
    obtain ⟨a, fd, body, h1, h2, h3, H, hb⟩ := entOk_facts (List.all_eq_true.mp hT e he)
    refine ⟨a, h1, h2, h3, simC_step (by rw [hP]; exact hfn) H (okSs_sim _ _ _ ⟨fun f hf => ?_, fun k hk => ⟨hk, ?_⟩, fun c' m' fn' hcc hfn' => ?_, fun k hk => ⟨hk, exc_cls (C.exc k hk)⟩, C.bfn, C.gi, hso, hsp⟩ H.vis hb)⟩
    · obtain ⟨fn', hfn'⟩ := C.fns f hf
      obtain ⟨b, k1, k2, k3, k4⟩ := ih "" f fn' hfn'
      exact ⟨b, fnAt_glob k1, k3, k4⟩
    · obtain ⟨d0, ⟨fn', hfn'⟩, C', hC', _, hkp⟩ := C.cls k hk
      obtain ⟨b, k1, k2, k3, k4⟩ := ih k "__init__" fn' hfn'
      exact ⟨C', b, hC', hkp, fnAt_meth d0 k1 k2 k3, k4⟩
    · rw [hP] at hfn'
      obtain ⟨b, k1, k2, k3, k4⟩ := ih c' m' fn' hfn'
      exact ⟨b, fnAt_meth (C.cls c' hcc).1 k1 k2 k3, k4⟩
theorem ints_vr : ∀ {vals : List Value} {ns : List Int}, IntsAre vals ns → VRs G w (ns.map .int) vals
  | _, _, .nil => .nil
  | _, _, .cons i t h => .cons (.int _ _) (ints_vr h)
noncomputable def wd0 (h : Heap) : Wd := ⟨fun a => (h.get? a).map .fix, []⟩
theorem wd0_at {h : Heap} {a : Addr} {o : Obj} (e : h.get? a = some o) : (wd0 h).m a = some (.fix o) := congrArg (Option.map Own.fix) e
theorem law_top {T : List Ent} {sub : String → String → Bool} {s₁ : Shared} {l fa : Addr} {vals : List Value} {ns : List Int} {n : Nat} {fn : Fn} {Q Ex : Value → Shared → Prop} (hP : G.P = progOf T sub) (KX : G.K.In s₁.heap) (Tg : s₁.heap.Ns mainGlobals G.mg) (Tb : s₁.heap.Ns builtinsNs G.mb) (hnl : s₁.heap.NoLimit)
    (hbi : ∀ x : Str, x ≠ "__name__" → G.mb x = bootBuiltins x) (hmg : G.mg (Str.ofString "law") = some (.ref fa)) (hT : T.all (entOk G.K G.com) = true) (hc : comOk G.K G.com sub T = true) (hso : SortOk G false) (hsp : "sorted2" ∈ G.com.bifs → SortOk G true) (hfn : tblFns T "" "law" = some fn)
    (hl : s₁.heap.IsList l vals.toArray) (hi : IntsAre vals ns) (hlen : ns.length ≤ 63) (hn : n ≤ 60) (hlaw : ∃ σ', run (progOf T sub) n false "" "law" [.lst (ns.map .int)] [] St.empty = some (.ok (.bool true), σ'))
    (hQ : ∀ s', Same s₁ s' → (∀ b o, s₁.heap.get? b = some o → s'.heap.get? b = some o) → Q (.bool true) s') :
    wpAny G.M callerA (call (.ref fa) [.ref l]) Q Ex s₁ := by
  have C := com_R (G := G) (by rw [hP]; exact hc)
  obtain ⟨a, h1, h2, h3, hsim⟩ := prog_sim hP hT C hso hsp n "" "law" fn hfn
  have ha := mg_of KX Tg (fnAt_glob h1)
  rw [hmg] at ha
  cases ha
  obtain ⟨σ', hrun⟩ := hlaw
  obtain ⟨o, ho, hcl, m, hdat⟩ := hl
  have B : Base G (wd0 s₁.heap) := ⟨fun a o e => wd0_at (KX a o e), let ⟨o, e, x⟩ := ObjNs.of Tg; ⟨o, wd0_at e, x⟩, let ⟨o, e, x⟩ := ObjNs.of Tb; ⟨o, wd0_at e, x⟩, hbi, let ⟨mc, x, y⟩ := hnl; let ⟨o, e, x⟩ := ObjNs.of x; ⟨o, mc, wd0_at e, x, y⟩, fun x hx => let ⟨_, _, C, h1, h2, _⟩ := C.cls x hx; ⟨C, h1, h2⟩, C.exc⟩
  have S : SR G (wd0 s₁.heap) St.empty s₁.heap := ⟨fun x o e => by obtain ⟨y, e1, e2⟩ := Option.map_eq_some_iff.mp e; subst e2; exact e1, rfl, fun i o e => no e⟩
  have hA : AOC callerA n false (wd0 s₁.heap) [] := ⟨fun _ => rfl, by
    show 1 + claimMargin + 4 * n + 2 < 1000
    unfold claimMargin; lia, by show 4 + 100 * n + 150 < 9900; lia, fun _ h => nomatch h⟩
  refine wpAny_mono (RC.ex .refl (hsim ⟨false, wd0 s₁.heap, St.empty, [], callerA, s₁, B, S, hA, rfl⟩ [.lst (ns.map .int)] [] [] [.ref l] [] (.ok (.bool true)) σ' (by rw [hP]; exact hrun) (.cons (.lst (wd0_at ho) hcl hdat (ints_vr hi) (by rw [List.length_map]; exact Nat.le_trans hlen (by decide))) .nil) .nil)) (fun v s' ⟨w', p, hv⟩ => ?_) fun _ _ q => q.elim
  cases hv
  exact hQ s' p.hs fun b o e => p.S.at (p.hw.m _ _ (wd0_at e))
end
end Lw
namespace Lw
open PySem PySem.W PySem.Calls PyProof.Rows
noncomputable def notName : Stmt → Bool
  | .Assign [.Name x _] _ _ => !(x == ("__name__" : Str))
  | _ => true
noncomputable def viewOf (p : Program) : Program := { p with main := { p.main with body := p.main.body.filter notName } }
noncomputable def endsOf (p : Program) (N : Nat) (w : World) : Option Shared := openEnds treeTable p w N
noncomputable def saysOf (p : Program) (N : Nat) (w : World) (h : Heap) : Prop := ∃ s, endsOf p N w = some s ∧ ∀ a o, s.heap.get? a = some o → h.get? a = some o
noncomputable def fragOf (as : List Addr) (s : Shared) : Frag := as.filterMap fun a => (s.heap.get? a).map fun o => (a, o)
theorem look_mem {α : Type} {l : List (Addr × α)} {a : Addr} {o : α} (h : l.lookup a = some o) : (a, o) ∈ l := by
  induction l with
  | nil => exact no h
  | cons z r ih =>
    obtain ⟨b, x⟩ := z
    rw [List.lookup_cons] at h
    split at h
    · rename_i q; cases h; cases eq_of_beq q; exact List.mem_cons_self ..
    · exact List.mem_cons_of_mem _ (ih h)
theorem frag_in {as : List Addr} {s : Shared} {a : Addr} {o : Obj} (h : (fragOf as s).lookup a = some o) : s.heap.get? a = some o := by
  obtain ⟨b, _, e⟩ := List.mem_filterMap.mp (look_mem h)
  obtain ⟨x, hx, e⟩ := Option.map_eq_some_iff.mp e
  cases e
  exact hx
theorem says_of (p : Program) (N : Nat) (w : World) (s : Shared) (e : some s.heap = (endsOf p N w).map (·.heap)) : saysOf p N w s.heap := by
  cases q : endsOf p N w with
  | none => rw [q] at e; cases e
  | some s' =>
    rw [q] at e
    have e' : s.heap = s'.heap := by simpa using e
    exact ⟨s', q, fun a o h => by rw [e']; exact h⟩
theorem says_keeps (p : Program) (N : Nat) (w : World) (h h' : Heap) (Y : saysOf p N w h) (k : ∀ b o, h.get? b = some o → h'.get? b = some o) : saysOf p N w h' :=
  let ⟨s, e, x⟩ := Y; ⟨s, e, fun a o q => k a o (x a o q)⟩
theorem left_of {p q : Program} {loose : List Str} {Xt : Shared → Bool} {N : Nat} (h : ∀ w, (endsOf p N w).map (fun s => openSeen q loose (importedModules p.main.body) Xt true s) = some (openGood q loose)) :
    LeftO p q loose Xt (fun s => some s.heap) (fun w => (endsOf p N w).map (·.heap)) N := by
  intro w
  have hw := h w
  show (endsOf p N w).map _ = _
  cases e : endsOf p N w with
  | none => rw [e] at hw; cases hw
  | some s =>
    rw [e] at hw
    simp only [Option.map_some, Option.some.injEq] at hw ⊢
    rw [hw, e]; rfl
noncomputable def defD (q : Program) (n : Str) : DefRec := match defOf q n with
  | some (d, _) => d
  | none => ⟨n, ⟨[], [], none, [], [], none, []⟩, [], ⟨.function, [], false, false, []⟩, ⟨0, 0, 0, 0⟩⟩
theorem frag_by {p : Program} {N : Nat} {w : World} {h : Heap} {as : List Addr} {T : List Ent} {com : Com} {sub : String → String → Bool}
    (e : (endsOf p N w).map (fun s => (T.all (entOk (fragOf as s) com), comOk (fragOf as s) com sub T)) = some (true, true)) (Y : saysOf p N w h) :
    ∃ K : Frag, K.In h ∧ T.all (entOk K com) = true ∧ comOk K com sub T = true := by
  obtain ⟨s, es, hk⟩ := Y
  rw [es] at e
  simp only [Option.map_some, Option.some.injEq, Prod.mk.injEq] at e
  exact ⟨fragOf as s, fun a o hl => hk a o (frag_in hl), e.1, e.2⟩
end Lw
namespace Lw
open PySem PySem.W PyProof.Rows
noncomputable def topG (ok : Thread → Bool) (stp : SharedT → Thread → Option (SharedT × Thread)) : Nat → SharedT → Thread → Option SharedT
  | 0, _, _ => none
  | n + 1, s, t => match through t with
    | true => some s
    | false => match ok t with
      | false => none
      | true => match stp s t with
        | some (s', t') => topG ok stp n s' t'
        | none => none
noncomputable def topRunT (tb : String → Option Builtin) (p : Program) (w : World) (n₀ : Nat) (ann : Option Value) : Nat → SharedT → Thread → Option SharedT := topG (stepOk n₀ ann) (stepT (denote tb) p w)
noncomputable def topRunQ (p : Program) (w : World) (n₀ : Nat) (ann : Option Value) : Nat → SharedT → Thread → Option SharedT := topG (PySem.W.Fast.tw6613529449190102663 n₀ ann) (PySem.W.Fast.tw10156331382660048174 (PySem.W.Fast.tw11892475500146522536 PySem.W.Fast.tw14364793385576792824) p w)
theorem topRunQ_eq (p : Program) (w : World) (n₀ : Nat) (ann : Option Value) : topRunT treeTable p w n₀ ann = topRunQ p w n₀ ann := by
  unfold topRunT topRunQ
  rw [PySem.W.Fast.te6613529449190102663, PySem.W.Fast.te10156331382660048174, PySem.W.Fast.te11892475500146522536, PySem.W.Fast.te14364793385576792824]
section
variable {tb : String → Option Builtin} {p : Program} {w : World} {n₀ : Nat} {ann : Option Value}
theorem topRun_of : ∀ {n : Nat} {s s' : SharedT} {t : Thread}, topRunT tb p w n₀ ann n s t = some s' → topRun tb p w n₀ ann n s.abs t = some s'.abs
  | 0, _, _, _, h => by cases h
  | n + 1, s, s', t, h => by
    unfold topRunT topG at h
    unfold topRun
    cases ht : through t with
    | true => rw [ht] at h; cases h; rfl
    | false =>
      rw [ht] at h
      cases hk : stepOk n₀ ann t with
      | false => rw [hk] at h; cases h
      | true =>
        rw [hk] at h
        cases hs : stepT (denote tb) p w s t with
        | none => rw [hs] at h; cases h
        | some r => obtain ⟨s₂, t₂⟩ := r; rw [hs] at h; rw [stepT_spec hs]; exact topRun_of h
end
noncomputable def insAll : List Obj → Nat → BT → BT
  | [], _, t => t
  | o :: r, i, t => insAll r (i + 1) (t.ins i o)
noncomputable def bootN (P : Params) : Nat := (boot_heap P).objs.size
noncomputable def bootT (P : Params) : BT := insAll (boot_heap P).objs.toList 0 .nil
theorem boot_abs (P : Params) : absHeap (bootT P) (bootN P) (boot_heap P).life = boot_heap P := by kernel_rfl
noncomputable def topT (p : Program) (w : World) (N : Nat) (os : OsState) : Option SharedT :=
  topRunQ p w (bootN w.params) ((boot_heap w.params).nsMap mainGlobals "__annotations__") N ⟨bootT w.params, bootN w.params, (boot_heap w.params).life, Array.mk [], boot_drawn, boot_toks, os⟩ (topStub p)
noncomputable def topChk (p : Program) (P : Params) (s : Shared) : Bool := staticsOk (importedModules p.main.body) (boot_heap P) s.heap && namesBound p s.heap && gensDone s && laidKept (boot_heap P) s.heap
theorem ends_of {p : Program} {N : Nat} {w : World} {β : Type} {f : Shared → β} {b : β} (e : opening p = plainProg p.main.scope.names) (hN : Nat.ble 600 N = true) (hf : ∀ s, fenceModules? p s = some s) (h0 : (boot_heap w.params).isNs mainGlobals = true)
    (h : ∀ os, (topT p w N os).map (fun s => (topChk p w.params s.abs, f s.abs)) = some (true, b)) : (openEnds treeTable p w N).map f = some b := by
  have hb := boot_open (N := N) e hN hf w
  obtain ⟨s, hs, hv⟩ := Option.map_eq_some_iff.mp hb
  obtain ⟨hp, g, d, tk, os⟩ := s
  simp only [Prod.mk.injEq] at hv
  obtain ⟨rfl, rfl, rfl, rfl⟩ := hv
  unfold openEnds
  rw [hs]
  show (topFrom treeTable p w N _).map f = some b
  unfold topFrom
  have h1 : ((boot_heap w.params).isNs mainGlobals && (Array.mk ([] : List GenState)).size == 0) = true := by rw [h0]; rfl
  dsimp only
  rw [h1]
  dsimp only
  obtain ⟨sT, e1, e2⟩ := Option.map_eq_some_iff.mp (h os)
  have key := topRun_of (show topRunT treeTable p w (bootN w.params) ((boot_heap w.params).nsMap mainGlobals "__annotations__") N ⟨bootT w.params, bootN w.params, (boot_heap w.params).life, Array.mk [], boot_drawn, boot_toks, os⟩ (topStub p) = some sT from by rw [topRunQ_eq]; exact e1)
  have ea : (⟨bootT w.params, bootN w.params, (boot_heap w.params).life, Array.mk [], boot_drawn, boot_toks, os⟩ : SharedT).abs = ⟨boot_heap w.params, Array.mk [], boot_drawn, boot_toks, os⟩ := by
    show (⟨absHeap (bootT w.params) (bootN w.params) (boot_heap w.params).life, Array.mk [], boot_drawn, boot_toks, os⟩ : Shared) = _
    rw [boot_abs]
  rw [ea] at key
  have key : topRun treeTable p w (boot_heap w.params).objs.size ((boot_heap w.params).nsMap mainGlobals "__annotations__") N ⟨boot_heap w.params, Array.mk [], boot_drawn, boot_toks, os⟩ (topStub p) = some sT.abs := key
  rw [key]
  simp only [Prod.mk.injEq] at e2
  obtain ⟨e2, rfl⟩ := e2
  have e2 : (staticsOk (importedModules p.main.body) (boot_heap w.params) sT.abs.heap && namesBound p sT.abs.heap && gensDone sT.abs && laidKept (boot_heap w.params) sT.abs.heap) = true := e2
  dsimp only [Option.bind_some]
  rw [e2]
  rfl
theorem ends_by {p : Program} {N : Nat} {w : World} {β : Type} {f : Shared → β} {b : β} (e : opening p = plainProg p.main.scope.names) (hN : Nat.ble 600 N = true) (hf : ∀ s, fenceModules? p s = some s) (h0 : (boot_heap w.params).isNs mainGlobals = true)
    (hA : ∀ os, (topT p w N os).map (fun s => topChk p w.params s.abs) = some true) (h : ∀ os, (topT p w N os).map (fun s => f s.abs) = some b) : (openEnds treeTable p w N).map f = some b := by
  refine ends_of e hN hf h0 fun os => ?_
  obtain ⟨s, e1, e2⟩ := Option.map_eq_some_iff.mp (hA os)
  have h := h os
  rw [e1] at h ⊢
  simp only [Option.map_some, Option.some.injEq] at h ⊢
  rw [e2, h]
theorem map_fst {α β γ : Type} {x : Option α} {f : α → β} {g : α → γ} {b : β} {c : γ} (e : x.map (fun s => (f s, g s)) = some (b, c)) : x.map f = some b ∧ x.map g = some c := by
  cases x with
  | none => cases e
  | some s =>
    simp only [Option.map_some, Option.some.injEq, Prod.mk.injEq] at e
    simp only [Option.map_some, e.1, e.2, and_self]
theorem map_app {α β γ δ : Type} {x : Option α} {f : α → β} {g : α → γ} {r : α → δ} {a : β} {b : γ} {c : δ} (h : x.map (fun s => (f s, g s)) = some (a, b)) (k : x.map r = some c) : x.map (fun s => (f s, g s, r s)) = some (a, b, c) := by
  cases x with
  | none => cases h
  | some s =>
    have h := Option.some.inj h
    exact congrArg some (Prod.ext (congrArg Prod.fst h :) (Prod.ext (congrArg Prod.snd h :) (Option.some.inj k :)))
theorem all_two {α β : Type} {x : Option α} {l : List β} {p : α → β → Bool} {c : α → Bool} (k : Nat) (h1 : x.map (fun s => (l.take k).all (p s)) = some true) (h2 : x.map (fun s => ((l.drop k).all (p s), c s)) = some (true, true)) : x.map (fun s => (l.all (p s), c s)) = some (true, true) := by
  cases x with
  | none => cases h1
  | some s =>
    have h2 := Option.some.inj h2
    have e : l.all (p s) = true := by rw [← List.take_append_drop k l, List.all_append]; exact Bool.and_eq_true_iff.mpr ⟨Option.some.inj h1, (congrArg Prod.fst h2 :)⟩
    exact congrArg some (Prod.ext e (congrArg Prod.snd h2 :))
theorem seen_by {x : Option SharedT} {q : Program} {loose mods : List Str} {Xt : Shared → Bool} (hA : x.map (fun s => ((PySem.W.Fast.tw4187177175401517315 q loose mods Xt true s.abs).1, (PySem.W.Fast.tw4187177175401517315 q loose mods Xt true s.abs).2.1)) = some (expectedOf q, bltViewBooted)) (hB : x.map (fun s => ((PySem.W.Fast.tw4187177175401517315 q loose mods Xt true s.abs).2.2.1, (PySem.W.Fast.tw4187177175401517315 q loose mods Xt true s.abs).2.2.2.1)) = some (true, true)) (hC : x.map (fun s => ((PySem.W.Fast.tw4187177175401517315 q loose mods Xt true s.abs).2.2.2.2.1, (PySem.W.Fast.tw4187177175401517315 q loose mods Xt true s.abs).2.2.2.2.2.1)) = some (pinGoodD (drecsOf q), plainGoodE q (looseW q loose))) (hD : x.map (fun s => (PySem.W.Fast.tw4187177175401517315 q loose mods Xt true s.abs).2.2.2.2.2.2) = some (plainGoodD q loose, wideGood q, clsGoodW q loose)) : x.map (fun s => openSeen q loose mods Xt true s.abs) = some (openGood q loose) := by
  rw [PySem.W.Fast.te4187177175401517315]
  exact map_app hA (map_app hB (map_app hC hD))
end Lw
namespace Lw
open PySem
structure Mc where
  P : Prog
  cl : Cl
  hd : Bool
  dr : Bool
noncomputable def Ev (M : Mc) (ρ : Rho) (σ : St) (e : E) (v : V) (σ' : St) : Prop := ev M.P M.cl M.hd e ρ σ = some (.ok v, σ')
noncomputable def Evs (M : Mc) (ρ : Rho) (σ : St) (es : List E) (vs : List V) (σ' : St) : Prop := evs M.P M.cl M.hd es ρ σ = some (.ok vs, σ')
noncomputable def Ex (M : Mc) (ss : List S) (ρ : Rho) (σ : St) (R : RS) : Prop := execs M.P M.cl M.hd M.dr ss ρ σ = R
section
variable {M : Mc} {ρ ρ' : Rho} {σ σ₁ σ₂ σ₃ σ₄ : St} {a b d : E} {x y z v : V} {es ks : List E} {xs ys vs us : List V} {i j : Int} {t u : Bool} {R : RS} {k : Nat} {r tb fb : List S}
theorem bM {α β : Type} {m : Option (Res α × St)} {f : α → St → Option (Res β × St)} {q : α} (h : m = some (.ok q, σ)) : bindM m f = f q σ := by rw [h]; rfl
theorem bE {m : RV} {f : V → St → RS} (h : m = some (.ok x, σ)) : bindE m ρ f = f x σ := by rw [h]; rfl
theorem oO {α β : Type} {o : Option α} {f : α → Option β} {q : α} (h : o = some q) : onO o f = f q := by rw [h]; rfl
theorem rV {o : Option V} (h : o = some x) : retV o σ = some (.ok x, σ) := by rw [h]; rfl
theorem rB {o : Option Bool} (h : o = some t) : retB o σ = some (.ok (.bool t), σ) := by rw [h]; rfl
theorem Ev.cNone : Ev M ρ σ .cNone .none σ := rfl
theorem Ev.cBool : Ev M ρ σ (.cBool t) (.bool t) σ := rfl
theorem Ev.cInt : Ev M ρ σ (.cInt i) (.int i) σ := rfl
theorem Ev.cStr {s : Str} : Ev M ρ σ (.cStr s) (.str s) σ := rfl
theorem Ev.gint {s : String} : Ev M ρ σ (.gint s i) (.int i) σ := rfl
theorem Ev.var (h : ρ k = some v) : Ev M ρ σ (.var k) v σ := rV h
theorem Ev.bin {op : BOp} (ha : Ev M ρ σ a x σ₁) (hb : Ev M ρ σ₁ b y σ₂) (h : binV op x y = some z) : Ev M ρ σ (.bin op a b) z σ₂ := (bM ha).trans ((bM hb).trans (rV h))
theorem Ev.add (ha : Ev M ρ σ a (.int i) σ₁) (hb : Ev M ρ σ₁ b (.int j) σ₂) : Ev M ρ σ (.bin .add a b) (.int (i + j)) σ₂ := .bin ha hb rfl
theorem Ev.sub (ha : Ev M ρ σ a (.int i) σ₁) (hb : Ev M ρ σ₁ b (.int j) σ₂) : Ev M ρ σ (.bin .sub a b) (.int (i - j)) σ₂ := .bin ha hb rfl
theorem Ev.mul (ha : Ev M ρ σ a (.int i) σ₁) (hb : Ev M ρ σ₁ b (.int j) σ₂) (h : i.natAbs < 2 ^ 60 ∧ j.natAbs < 2 ^ 60) : Ev M ρ σ (.bin .mul a b) (.int (i * j)) σ₂ := .bin ha hb (if_pos h)
theorem Ev.fdiv (ha : Ev M ρ σ a (.int i) σ₁) (hb : Ev M ρ σ₁ b (.int j) σ₂) (h : 0 < j ∧ j < 2 ^ 60) : Ev M ρ σ (.bin .fdiv a b) (.int (i / j)) σ₂ := .bin ha hb (if_pos h)
theorem Ev.mod (ha : Ev M ρ σ a (.int i) σ₁) (hb : Ev M ρ σ₁ b (.int j) σ₂) (h : 0 < j ∧ j < 2 ^ 60) : Ev M ρ σ (.bin .mod a b) (.int (i % j)) σ₂ := .bin ha hb (if_pos h)
theorem Ev.addS {s w : Str} (ha : Ev M ρ σ a (.str s) σ₁) (hb : Ev M ρ σ₁ b (.str w) σ₂) (h : s.length + w.length ≤ lim) : Ev M ρ σ (.bin .add a b) (.str (s ++ w)) σ₂ := .bin ha hb (if_pos h)
theorem Ev.cmp {op : COp} (ha : Ev M ρ σ a x σ₁) (hb : Ev M ρ σ₁ b y σ₂) (h : cmpV σ₂ op x y = some t) : Ev M ρ σ (.cmp op a b) (.bool t) σ₂ := (bM ha).trans ((bM hb).trans (rB h))
theorem Ev.isNone (ha : Ev M ρ σ a x σ₁) : Ev M ρ σ (.isNone a) (.bool x.isNone) σ₁ := bM ha
theorem Ev.notNone (ha : Ev M ρ σ a x σ₁) : Ev M ρ σ (.notNone a) (.bool (!x.isNone)) σ₁ := bM ha
theorem Ev.bool1 (ha : Ev M ρ σ a x σ₁) : Ev M ρ σ (.bool u [a]) x σ₁ := bM ha
theorem Ev.boolS (ha : Ev M ρ σ a x σ₁) (h : truthV σ₁ x = some (!u)) : Ev M ρ σ (.bool u (a :: b :: es)) x σ₁ := (bM ha).trans ((oO h).trans (if_neg (by cases u <;> decide)))
theorem Ev.boolC (ha : Ev M ρ σ a x σ₁) (h : truthV σ₁ x = some u) (hb : Ev M ρ σ₁ (.bool u (b :: es)) v σ₂) : Ev M ρ σ (.bool u (a :: b :: es)) v σ₂ := (bM ha).trans ((oO h).trans ((if_pos rfl).trans hb))
theorem Ev.not (ha : Ev M ρ σ a x σ₁) (h : truthV σ₁ x = some t) : Ev M ρ σ (.not a) (.bool (!t)) σ₁ := (bM ha).trans (rB (by rw [h]; rfl))
theorem Ev.neg (ha : Ev M ρ σ a (.int i) σ₁) : Ev M ρ σ (.neg a) (.int (-i)) σ₁ := (bM ha).trans rfl
theorem Evs.nil : Evs M ρ σ [] [] σ := rfl
theorem Evs.cons (ha : Ev M ρ σ a x σ₁) (hs : Evs M ρ σ₁ es xs σ₂) : Evs M ρ σ (a :: es) (x :: xs) σ₂ := (bM ha).trans (bM hs)
theorem Ev.fcall {f : String} (hs : Evs M ρ σ es xs σ₁) (h : M.cl M.hd "" f xs [] σ₁ = some (.ok v, σ₂)) : Ev M ρ σ (.fcall f es) v σ₂ := (bM hs).trans h
theorem Ev.new {c : String} {kn : List String} (hs : Evs M ρ σ es xs σ₁) (hk : Evs M ρ σ₁ ks us σ₂) (h : M.cl M.hd c "__init__" (.ref σ₂.n :: xs) (kn.zip us) (σ₂.new (.inst c [])) = some (.ok .none, σ₃)) : Ev M ρ σ (.new c es kn ks) (.ref σ₂.n) σ₃ := (bM hs).trans ((bM hk).trans (bM h))
theorem Ev.mcall {m c : String} {kn : List String} (ho : Ev M ρ σ a x σ₁) (hm : methV M.P σ₁ x m = some c) (hs : Evs M ρ σ₁ es xs σ₂) (hk : Evs M ρ σ₂ ks us σ₃) (h : M.cl M.hd c m (x :: xs) (kn.zip us) σ₃ = some (.ok v, σ₄)) : Ev M ρ σ (.mcall a m es kn ks) v σ₄ :=
  (bM ho).trans ((oO hm).trans ((bM hs).trans ((bM hk).trans h)))
theorem Ev.bcall {f : Bf} (hs : Evs M ρ σ es xs σ₁) (hl : (f.long && M.hd) = false) (h : bfV f xs σ₁ = some (.ok v, σ₂)) : Ev M ρ σ (.bcall f es) v σ₂ := (bM hs).trans ((if_neg (by rw [hl]; decide)).trans h)
theorem Ev.bmeth {m : Bm} (ho : Ev M ρ σ a x σ₁) (hp : bmPre σ₁ m x = true) (hs : Evs M ρ σ₁ es xs σ₂) (hl : (m.long && M.hd) = false) (h : bmV m x xs σ₂ = some (.ok v, σ₃)) : Ev M ρ σ (.bmeth m a es) v σ₃ :=
  (bM ho).trans ((if_pos hp).trans ((bM hs).trans ((if_neg (by rw [hl]; decide)).trans h)))
theorem Ev.isinst {ty : Ty} (ha : Ev M ρ σ a x σ₁) (h : isinstV M.P σ₁ x ty = some t) : Ev M ρ σ (.isinst a ty) (.bool t) σ₁ := (bM ha).trans (rB h)
theorem Ev.attr {n : String} (ha : Ev M ρ σ a x σ₁) (h : attrV σ₁ x n = some v) : Ev M ρ σ (.attr a n) v σ₁ := (bM ha).trans (rV h)
theorem Ev.idx (ha : Ev M ρ σ a x σ₁) (hb : Ev M ρ σ₁ b y σ₂) (h : idxV σ₂ x y = some v) : Ev M ρ σ (.idx a b) v σ₂ := (bM ha).trans ((bM hb).trans (rV h))
theorem Ev.slice {mt : Bool} (ha : Ev M ρ σ a x σ₁) (hb : Ev M ρ σ₁ b y σ₂) (hd : Ev M ρ σ₂ d z σ₃) (h : sliceV mt x y z σ₃ = some (.ok v, σ₄)) : Ev M ρ σ (.slice mt a b d) v σ₄ := (bM ha).trans ((bM hb).trans ((bM hd).trans h))
theorem Ev.list (hs : Evs M ρ σ es xs σ₁) (h : xs.length ≤ lim) : Ev M ρ σ (.list false es) (.lst xs) σ₁ := (bM hs).trans (if_pos h)
theorem Ev.listM (hs : Evs M ρ σ es xs σ₁) (h : xs.length ≤ lim) : Ev M ρ σ (.list true es) (.ref σ₁.n) (σ₁.new (.list false xs)) := (bM hs).trans (if_pos h)
theorem Ev.tup (hs : Evs M ρ σ es xs σ₁) (h : xs.length ≤ lim) : Ev M ρ σ (.tup es) (.tup xs) σ₁ := (bM hs).trans (if_pos h)
theorem Ev.dict0 : Ev M ρ σ (.dict0 true) (.ref σ.n) (σ.new (.ds false [])) := rfl
theorem compL_map {test elt : V → St → RV} {f : V → V} {p : V → Bool} : ∀ {xs : List V}, (∀ x ∈ xs, test x σ = some (.ok (.bool (p x)), σ)) → (∀ x ∈ xs, p x = true → elt x σ = some (.ok (f x), σ)) → compL test elt xs σ = some (.ok ((xs.filter p).map f), σ) := by
  intro xs
  induction xs with
  | nil => intro _ _; rfl
  | cons x r ih =>
    intro ht he
    have ih := ih (fun y hy => ht y (List.mem_cons_of_mem _ hy)) fun y hy => he y (List.mem_cons_of_mem _ hy)
    refine (bM (ht x (List.mem_cons_self ..))).trans ((oO rfl).trans ?_)
    cases hp : p x with
    | true => rw [List.filter_cons_of_pos hp]; exact (bM (he x (List.mem_cons_self ..) hp)).trans (bM ih)
    | false => rw [List.filter_cons_of_neg (by rw [hp]; decide)]; exact ih
theorem Ev.comp {f : V → V} (hh : M.hd = false) (ha : Ev M ρ σ a x σ₁) (hi : itemsOf σ₁ x = some xs) (hl : unlockV σ₁ x (lockV σ₁ x) = σ₁) (he : ∀ y ∈ xs, Ev M (upd ρ k y) (lockV σ₁ x) b (f y) (lockV σ₁ x)) : Ev M ρ σ (.comp false b k a (.cBool true)) (.lst (xs.map f)) σ₁ := by
  obtain ⟨P, cl, hd, dr⟩ := M
  cases hh
  refine (bM ha).trans ((oO hi).trans ((oO (q := (xs.map f, lockV σ₁ x)) ?_).trans (by show mkL false _ _ = _; rw [hl]; rfl)))
  rw [compL_map (p := fun _ => true) (f := f) (fun _ _ => rfl) fun y hy _ => he y hy, List.filter_eq_self.mpr fun _ _ => rfl]; rfl
theorem execs_app {s : List S} : ∀ {ρ : Rho} {σ : St}, execs M.P M.cl M.hd M.dr (s ++ r) ρ σ = bindS (execs M.P M.cl M.hd M.dr s ρ σ) fun ρ σ => execs M.P M.cl M.hd M.dr r ρ σ := by
  induction s with
  | nil => intro ρ σ; rfl
  | cons a s ih =>
    intro ρ σ
    show bindS (exec M.P M.cl M.hd M.dr a ρ σ) (fun ρ σ => execs M.P M.cl M.hd M.dr (s ++ r) ρ σ) = bindS (bindS (exec M.P M.cl M.hd M.dr a ρ σ) fun ρ σ => execs M.P M.cl M.hd M.dr s ρ σ) _
    cases exec M.P M.cl M.hd M.dr a ρ σ with
    | none => rfl
    | some q =>
      obtain ⟨fl, ρ₁, σ₁⟩ := q
      cases fl with
      | next => exact ih
      | ret => rfl
      | exc => rfl
theorem bS {m : RS} {f : Rho → St → RS} (h : m = some (.next, ρ, σ)) : bindS m f = f ρ σ := by rw [h]; rfl
theorem Ex.nil : Ex M [] ρ σ (some (.next, ρ, σ)) := rfl
theorem Ex.expr (h : Ev M ρ σ a x σ₁) (k : Ex M r ρ σ₁ R) : Ex M (.expr a :: r) ρ σ R := (bS (bE h)).trans k
theorem Ex.assign (h : Ev M ρ σ a x σ₁) (q : Ex M r (upd ρ k x) σ₁ R) : Ex M (.assign k a :: r) ρ σ R := (bS (bE h)).trans q
theorem Ex.setattr {n : String} (h : Ev M ρ σ b x σ₁) (h2 : Ev M ρ σ₁ a y σ₂) (h3 : setattrV y n x σ₂ = some σ₃) (q : Ex M r ρ σ₃ R) : Ex M (.setattr a n b :: r) ρ σ R := (bS ((bE h).trans ((bE h2).trans (by rw [h3]; rfl)))).trans q
theorem Ex.setidx (h : Ev M ρ σ b x σ₁) (h2 : Ev M ρ σ₁ a y σ₂) (h3 : Ev M ρ σ₂ d z σ₃) (h4 : setidxV y z x σ₃ = some σ₄) (q : Ex M r ρ σ₄ R) : Ex M (.setidx a d b :: r) ρ σ R := (bS ((bE h).trans ((bE h2).trans ((bE h3).trans (by rw [h4]; rfl))))).trans q
theorem Ex.iteT (h : Ev M ρ σ a x σ₁) (ht : truthV σ₁ x = some true) (q : Ex M (tb ++ r) ρ σ₁ R) : Ex M (.ite a tb fb :: r) ρ σ R := by
  have e : exec M.P M.cl M.hd M.dr (.ite a tb fb) ρ σ = execs M.P M.cl M.hd M.dr tb ρ σ₁ := (bE h).trans (oO ht)
  show bindS (exec M.P M.cl M.hd M.dr (.ite a tb fb) ρ σ) _ = R
  rw [e, ← execs_app]; exact q
theorem Ex.iteF (h : Ev M ρ σ a x σ₁) (ht : truthV σ₁ x = some false) (q : Ex M (fb ++ r) ρ σ₁ R) : Ex M (.ite a tb fb :: r) ρ σ R := by
  have e : exec M.P M.cl M.hd M.dr (.ite a tb fb) ρ σ = execs M.P M.cl M.hd M.dr fb ρ σ₁ := (bE h).trans (oO ht)
  show bindS (exec M.P M.cl M.hd M.dr (.ite a tb fb) ρ σ) _ = R
  rw [e, ← execs_app]; exact q
theorem Ex.ret (h : Ev M ρ σ a x σ₁) : Ex M (.ret a :: r) ρ σ (some (.ret x, ρ, σ₁)) := by
  show bindS (bindE (ev M.P M.cl M.hd a ρ σ) ρ _) _ = _
  rw [bE h]; rfl
theorem Ex.for1 (hh : M.hd = false) (h : Ev M ρ σ a x σ₁) (hi : itemsOf σ₁ x = some xs) (hl : loop (fun v ρ σ => execs M.P M.cl M.hd M.dr tb (upd ρ k v) σ) xs ρ (lockV σ₁ x) = some (.next, ρ', σ₂)) (q : Ex M r ρ' (unlockV σ₁ x σ₂) R) : Ex M (.for1 k a tb :: r) ρ σ R := by
  obtain ⟨P, cl, hd, dr⟩ := M
  cases hh
  exact (bS ((bE h).trans ((oO hi).trans (by rw [hl]; rfl)))).trans q
theorem Ex.forP (hh : M.hd = false) (h : Ev M ρ σ a x σ₁) (hi : itemsOf σ₁ x = some xs) (hl : loop (fun v ρ σ => execs M.P M.cl M.hd M.dr tb (upd ρ k v) σ) xs ρ (lockV σ₁ x) = some (.next, ρ', lockV σ₁ x)) (hu : unlockV σ₁ x (lockV σ₁ x) = σ₁) (q : Ex M r ρ' σ₁ R) : Ex M (.for1 k a tb :: r) ρ σ R := .for1 hh h hi hl (hu.symm ▸ q)
theorem loop_inv {f : V → Rho → St → RS} (I : Nat → Rho → St → Prop) : ∀ (xs : List V) (n : Nat) (ρ : Rho) (σ : St), I n ρ σ → (∀ i v ρ σ, xs[i]? = some v → I (n + i) ρ σ → ∃ ρ' σ', f v ρ σ = some (.next, ρ', σ') ∧ I (n + i + 1) ρ' σ') → ∃ ρ' σ', loop f xs ρ σ = some (.next, ρ', σ') ∧ I (n + xs.length) ρ' σ' := by
  intro r
  induction r with
  | nil =>
    intro n ρ σ h _
    exact ⟨ρ, σ, rfl, h⟩
  | cons v r ih =>
    intro n ρ σ h hs
    obtain ⟨ρ₁, σ₁, e, h1⟩ := hs 0 v ρ σ rfl h
    obtain ⟨ρ₂, σ₂, e2, h2⟩ := ih (n + 1) ρ₁ σ₁ h1 fun i u ρ σ hu hI => by
      rw [show n + 1 + i = n + (i + 1) by lia] at hI ⊢
      exact hs (i + 1) u ρ σ hu hI
    refine ⟨ρ₂, σ₂, (bS e).trans e2, ?_⟩
    rw [List.length_cons, Nat.add_comm r.length 1, ← Nat.add_assoc]; exact h2
theorem call_at {P : Prog} {n : Nat} {hd : Bool} {c f : String} {args : List V} {kws : List (String × V)} {fn : Fn} (hf : P.fns c f = some fn) (hk : kwOk fn args kws = true) (hb : bindP fn.params args kws fn.dflts = some vs) (h : Ex ⟨P, run P n, hd, true⟩ fn.body (rhoOf vs) σ (some (.ret v, ρ, σ₁))) : run P (n + 1) hd c f args kws σ = some (.ok v, σ₁) := by
  refine (oO hf).trans ((if_pos hk).trans ((oO hb).trans ?_))
  rw [show execs P (run P n) hd true fn.body (rhoOf vs) σ = _ from h]; rfl
theorem call_at0 {P : Prog} {n : Nat} {hd : Bool} {c f : String} {args : List V} {kws : List (String × V)} {fn : Fn} (hf : P.fns c f = some fn) (hk : kwOk fn args kws = true) (hb : bindP fn.params args kws fn.dflts = some vs) (h : Ex ⟨P, run P n, hd, true⟩ fn.body (rhoOf vs) σ (some (.next, ρ, σ₁))) : run P (n + 1) hd c f args kws σ = some (.ok .none, σ₁) := by
  refine (oO hf).trans ((if_pos hk).trans ((oO hb).trans ?_))
  rw [show execs P (run P n) hd true fn.body (rhoOf vs) σ = _ from h]; rfl
theorem Ev.compF {f : V → V} {p : V → Bool} (hh : M.hd = false) (ha : Ev M ρ σ a x σ₁) (hi : itemsOf σ₁ x = some xs) (hl : unlockV σ₁ x (lockV σ₁ x) = σ₁) (ht : ∀ y ∈ xs, Ev M (upd ρ k y) (lockV σ₁ x) d (.bool (p y)) (lockV σ₁ x)) (he : ∀ y ∈ xs, p y = true → Ev M (upd ρ k y) (lockV σ₁ x) b (f y) (lockV σ₁ x)) : Ev M ρ σ (.comp false b k a d) (.lst ((xs.filter p).map f)) σ₁ := by
  obtain ⟨P, cl, hd, dr⟩ := M
  cases hh
  refine (bM ha).trans ((oO hi).trans ((oO (q := ((xs.filter p).map f, lockV σ₁ x)) ?_).trans (by show mkL false _ _ = _; rw [hl]; rfl)))
  rw [compL_map (p := p) (f := f) ht he]; rfl
noncomputable def EvX (M : Mc) (ρ : Rho) (σ : St) (e : E) (c : String) (σ' : St) : Prop := ev M.P M.cl M.hd e ρ σ = some (.exc c, σ')
theorem EvX.mcall {m c e : String} {kn : List String} (ho : Ev M ρ σ a x σ₁) (hm : methV M.P σ₁ x m = some c) (hs : Evs M ρ σ₁ es xs σ₂) (hk : Evs M ρ σ₂ ks us σ₃) (h : M.cl M.hd c m (x :: xs) (kn.zip us) σ₃ = some (.exc e, σ₄)) : EvX M ρ σ (.mcall a m es kn ks) e σ₄ :=
  (bM ho).trans ((oO hm).trans ((bM hs).trans ((bM hk).trans h)))
theorem EvX.fcall {f e : String} (hs : Evs M ρ σ es xs σ₁) (h : M.cl M.hd "" f xs [] σ₁ = some (.exc e, σ₂)) : EvX M ρ σ (.fcall f es) e σ₂ := (bM hs).trans h
theorem Ex.exprX {c : String} (h : EvX M ρ σ a c σ₁) : Ex M (.expr a :: r) ρ σ (some (.exc c, ρ, σ₁)) := by
  show bindS (bindE (ev M.P M.cl M.hd a ρ σ) ρ _) _ = _
  rw [show ev M.P M.cl M.hd a ρ σ = _ from h]; rfl
theorem Ex.retX {c : String} (h : EvX M ρ σ a c σ₁) : Ex M (.ret a :: r) ρ σ (some (.exc c, ρ, σ₁)) := by
  show bindS (bindE (ev M.P M.cl M.hd a ρ σ) ρ _) _ = _
  rw [show ev M.P M.cl M.hd a ρ σ = _ from h]; rfl
theorem Ex.raise {P : Prog} {cl : Cl} {c : String} {s : Str} : Ex ⟨P, cl, false, true⟩ (.raise c s :: r) ρ σ (some (.exc c, ρ, σ)) := rfl
theorem Ex.tryOk {P : Prog} {cl : Cl} {dr : Bool} {c : String} {h : List S} (q : Ex ⟨P, cl, false, false⟩ tb ρ σ (some (.ret v, ρ', σ₁))) : Ex ⟨P, cl, false, dr⟩ (.tryx tb c k h :: r) ρ σ (some (.ret v, ρ', σ₁)) := by
  show bindS (catchS (execs P cl false false tb ρ σ) _) _ = _
  rw [show execs P cl false false tb ρ σ = _ from q]; rfl
theorem Ex.tryX {P : Prog} {cl : Cl} {dr : Bool} {c e : String} {h : List S} {ρ₁ : Rho} (q : Ex ⟨P, cl, false, false⟩ tb ρ σ (some (.exc e, ρ', σ₁))) (hs : P.sub e c = true) (z : Ex ⟨P, cl, true, false⟩ h (upd ρ' k (.exc e)) σ₁ (some (.ret v, ρ₁, σ₂))) : Ex ⟨P, cl, false, dr⟩ (.tryx tb c k h :: r) ρ σ (some (.ret v, fun _ => none, σ₂)) := by
  show bindS (catchS (execs P cl false false tb ρ σ) fun x ρ σ => if P.sub x c = true then unbind (execs P cl true false h (upd ρ k (.exc x)) σ) else none) _ = _
  rw [show execs P cl false false tb ρ σ = _ from q]
  show bindS (if P.sub e c = true then unbind (execs P cl true false h (upd ρ' k (.exc e)) σ₁) else none) _ = _
  rw [if_pos hs, show execs P cl true false h (upd ρ' k (.exc e)) σ₁ = _ from z]; rfl
theorem Ex.forRet (h : Ev M ρ σ a (.lst xs) σ₁) (hl : loop (fun v ρ σ => execs M.P M.cl M.hd M.dr tb (upd ρ k v) σ) xs ρ σ₁ = some (.ret v, ρ', σ₂)) : Ex M (.for1 k a tb :: r) ρ σ (some (.ret v, ρ', σ₂)) := by
  obtain ⟨P, cl, hd, dr⟩ := M
  have e : exec P cl hd dr (.for1 k a tb) ρ σ = some (.ret v, ρ', σ₂) := (bE h).trans ((oO (show itersOf hd σ₁ (.lst xs) = some xs by cases hd <;> rfl)).trans (by
    show loopEnd hd σ₁ (.lst xs) (loop (fun v ρ σ => execs P cl hd dr tb (upd ρ k v) σ) xs ρ σ₁) = _
    rw [hl]; rfl))
  show bindS (exec P cl hd dr (.for1 k a tb) ρ σ) _ = _
  rw [e]; rfl
theorem loop_ret {f : V → Rho → St → RS} (h : f x ρ σ = some (.ret v, ρ', σ₁)) : loop f (x :: xs) ρ σ = some (.ret v, ρ', σ₁) := by
  show bindS (f x ρ σ) _ = _
  rw [h]; rfl
theorem loop_next {f : V → Rho → St → RS} (h : f x ρ σ = some (.next, ρ', σ₁)) : loop f (x :: xs) ρ σ = loop f xs ρ' σ₁ := bS h
theorem call_atX {P : Prog} {n : Nat} {hd : Bool} {c f e : String} {args : List V} {kws : List (String × V)} {fn : Fn} (hf : P.fns c f = some fn) (hk : kwOk fn args kws = true) (hb : bindP fn.params args kws fn.dflts = some vs) (h : Ex ⟨P, run P n, hd, true⟩ fn.body (rhoOf vs) σ (some (.exc e, ρ, σ₁))) : run P (n + 1) hd c f args kws σ = some (.exc e, σ₁) := by
  refine (oO hf).trans ((if_pos hk).trans ((oO hb).trans ?_))
  rw [show execs P (run P n) hd true fn.body (rhoOf vs) σ = _ from h]; rfl
end
end Lw
namespace Lw
open PySem
theorem pick {α β : Type} {xs : List α} {Q : α → β → Prop} [Inhabited β] (h : ∀ y ∈ xs, ∃ z, Q y z) : ∃ f : α → β, ∀ y ∈ xs, Q y (f y) :=
  ⟨fun y => Classical.epsilon (Q y), fun y hy => Classical.epsilon_spec (h y hy)⟩
theorem place_at {i : Int} {m : Nat} (h0 : 0 ≤ i) (h1 : i < m) (h2 : i < 2 ^ 60) : place i m = some i.toNat := by
  unfold place
  rw [if_pos (by lia), if_pos h0, if_pos h1]
theorem place_mod {c k : Int} {m : Nat} (hk : 0 < k) (hk2 : k < 2 ^ 60) (hm : k ≤ m) : place (c % k) m = some (c % k).toNat ∧ (c % k).toNat < m := by
  have h0 := Int.emod_nonneg c (Int.ne_of_gt hk)
  have h1 := Int.emod_lt_of_pos c hk
  have h2 := Int.lt_of_lt_of_le h1 hm
  exact ⟨place_at h0 h2 (Int.lt_trans h1 hk2), (Int.toNat_lt h0).mpr h2⟩
theorem drawn {σ : St} {vs : List V} {c k : Int} (hk : 0 < k) (hk2 : k < 2 ^ 60) (hm : k ≤ vs.length) : ∃ x ∈ vs, idxV σ (.lst vs) (.int (c % k)) = some x := by
  obtain ⟨h1, h2⟩ := place_mod (c := c) hk hk2 hm
  refine ⟨vs[(c % k).toNat], List.getElem_mem h2, ?_⟩
  show (place (c % k) vs.length).bind (vs[·]?) = _
  rw [h1]; exact List.getElem?_eq_getElem h2
theorem rng_all : ∀ m : Fin 1001, Builtin.Range.small 0 (m.val : Int) 1 = true ∧ Builtin.Range.rangeSize 0 (m.val : Int) 1 = ((((m.val : Int) - 0 + 1 - 1) / 1).toNat : Int) ∧ (((m.val : Int) - 0 + 1 - 1) / 1).toNat ≤ lim := by decide +kernel
theorem rng_items {σ : St} {k : Int} (h0 : 0 ≤ k) (h1 : k ≤ 1000) : itemsOf σ (.rng 0 k 1) = some (rngList 0 k 1) := by
  obtain ⟨m, rfl⟩ := Int.eq_ofNat_of_zero_le h0
  have h := rng_all ⟨m, by lia⟩
  generalize hl : lim = l at h
  unfold itemsOf
  rw [hl]
  exact if_pos h
theorem rng_mem {k : Int} {v : V} (h : v ∈ rngList 0 k 1) : ∃ j : Nat, (j : Int) < k ∧ v = .int j := by
  obtain ⟨j, hj, rfl⟩ := List.mem_map.mp h
  rw [List.mem_range] at hj
  exact ⟨j, by lia, congrArg V.int (by rw [Int.one_mul, Int.zero_add])⟩
theorem rng_len {k : Int} : (rngList 0 k 1).length = k.toNat := by
  unfold rngList
  rw [List.length_map, List.length_range]; lia
theorem len_app (a b : Str) : (a ++ b).length = a.length + b.length := by
  show (a.cps ++ b.cps).size = _
  rw [Array.size_append]; rfl
theorem cutL_le {α : Type} (xs : List α) (a b : Nat) : (cutL xs a b).length ≤ xs.length := ((List.drop_sublist ..).trans (List.take_sublist ..)).length_le
theorem cut_len (s : Str) (a b : Nat) : (⟨(cutL s.cps.toList a b).toArray⟩ : Str).length ≤ s.length := by
  show (cutL s.cps.toList a b).toArray.size ≤ s.cps.size
  rw [List.size_toArray]; exact cutL_le ..
theorem asStrs_map (ss : List Str) : asStrs (ss.map .str) = some ss := by
  induction ss with
  | nil => rfl
  | cons s r ih => exact (oO rfl).trans (oO ih)
theorem join_one {ss : List Str} (h : ∀ s ∈ ss, s.length = 1) : (ss.map (·.length)).sum = ss.length := by
  induction ss with
  | nil => rfl
  | cons s r ih =>
    rw [List.map_cons, List.sum_cons, ih fun x hx => h x (List.mem_cons_of_mem _ hx), h s (List.mem_cons_self ..), List.length_cons, Nat.add_comm]
theorem join_size : ∀ (ss : List Str), (Str.join ⟨#[]⟩ ss).length = (ss.map (·.length)).sum
  | [] => rfl
  | [x] => (Nat.add_zero _).symm
  | x :: y :: r => by
    show (x.cps ++ #[] ++ ((⟨#[]⟩ : Str).join (y :: r)).cps).size = _
    rw [Array.size_append, Array.size_append, show ((⟨#[]⟩ : Str).join (y :: r)).cps.size = _ from join_size (y :: r)]; rfl
theorem get_set (σ : St) (i j : Nat) (o : O) : (σ.set i o).get j = if j = i then some o else σ.get j := rfl
theorem get_set_ne {σ : St} {i j : Nat} {o : O} (h : j ≠ i) : (σ.set i o).get j = σ.get j := if_neg h
theorem get_set_eq {σ : St} {i : Nat} {o : O} : (σ.set i o).get i = some o := if_pos rfl
theorem get_new_lt {σ : St} {j : Nat} {o : O} (h : j < σ.n) : (σ.new o).get j = σ.get j := if_neg (Nat.ne_of_lt h)
theorem get_new_eq {σ : St} {o : O} : (σ.new o).get σ.n = some o := if_pos rfl
theorem set_same {σ : St} {i : Nat} {o : O} (h : σ.get i = some o) : σ.set i o = σ := by
  obtain ⟨n, f⟩ := σ
  show St.mk n _ = St.mk n f
  congr 1; funext j
  by_cases e : j = i
  · subst e; rw [if_pos rfl]; exact h.symm
  · rw [if_neg e]
theorem set_set {σ : St} {i : Nat} {o o' : O} : (σ.set i o).set i o' = σ.set i o' := by
  show St.mk _ _ = St.mk _ _
  congr 1; funext j
  by_cases e : j = i
  · rw [if_pos e, if_pos e]
  · rw [if_neg e, if_neg e]; exact if_neg e
end Lw
namespace Lw
open PySem
theorem eqvAll_self {xs : List PyData} (h : ∀ x ∈ xs, PyData.eqv x x = true) : PyData.eqvAll xs xs = true := by
  induction xs with
  | nil => rfl
  | cons x r ih => exact Bool.and_eq_true_iff.mpr ⟨h x (List.mem_cons_self ..), ih fun y hy => h y (List.mem_cons_of_mem _ hy)⟩
theorem oO_inv {α β : Type} {o : Option α} {k : α → Option β} {b : β} (h : onO o k = some b) : ∃ a, o = some a ∧ k a = some b := by
  cases o with
  | none => cases h
  | some a => exact ⟨a, rfl, h⟩
theorem mapO_mem {α β : Type} {f : α → Option β} {l : List α} : ∀ {ys : List β}, mapO f l = some ys → ∀ y ∈ ys, ∃ x, f x = some y := by
  induction l with
  | nil => intro ys h y hy; cases h; cases hy
  | cons a r ih =>
    intro ys h y hy
    obtain ⟨b, h1, h⟩ := oO_inv h
    obtain ⟨bs, h2, h⟩ := oO_inv h
    cases h
    rcases List.mem_cons.mp hy with rfl | hy
    · exact ⟨a, h1⟩
    · exact ih h2 y hy
theorem flat_self {v : V} {d : PyData} (h : flatD v = some d) : PyData.eqv d d = true := by
  cases v <;> cases h
  · rfl
  · exact beq_self_eq_true _
  · exact beq_self_eq_true _
  · exact beq_self_eq_true _
theorem eqv_data {σ : St} : ∀ (n : Nat) (v : V) (d : PyData), dataOf σ n v = some d → PyData.eqv d d = true := by
  intro n
  induction n with
  | zero => exact fun v d h => flat_self h
  | succ n ih =>
    intro v d h
    have key : ∀ vs ds, mapO (dataOf σ n) vs = some ds → PyData.eqvAll ds ds = true := fun vs ds e => eqvAll_self fun y hy => by
      obtain ⟨x, e⟩ := mapO_mem e y hy
      exact ih x y e
    cases hf : flatD v with
    | some d' => rw [dataOf, hf] at h; cases h; exact flat_self hf
    | none =>
      rw [dataOf, hf] at h
      have h : seqD (mapO (dataOf σ n)) σ v = some d := h
      cases v with
      | tup vs => obtain ⟨ds, e, rfl⟩ := Option.map_eq_some_iff.mp h; exact key vs ds e
      | lst vs => obtain ⟨ds, e, rfl⟩ := Option.map_eq_some_iff.mp h; exact key vs ds e
      | ref i =>
        cases hl : listAt σ i with
        | none => rw [seqD, hl] at h; cases h
        | some vs =>
          rw [seqD, hl] at h
          obtain ⟨ds, e, rfl⟩ := Option.map_eq_some_iff.mp (show (mapO (dataOf σ n) vs).map PyData.list = some d from h)
          exact key vs ds e
      | _ => cases h
theorem mapO_all {α β : Type} {f : α → Option β} {l : List α} (h : ∀ x ∈ l, ∃ y, f x = some y) : ∃ ys, mapO f l = some ys := by
  induction l with
  | nil => exact ⟨[], rfl⟩
  | cons a r ih =>
    obtain ⟨y, e⟩ := h a (List.mem_cons_self ..)
    obtain ⟨ys, e'⟩ := ih fun x hx => h x (List.mem_cons_of_mem _ hx)
    exact ⟨y :: ys, (oO e).trans (oO e')⟩
section
variable {σ : St} {vs : List V} {x y : V} {t : Nat} {l : Bool}
theorem listAt_of (h : σ.get t = some (.list l vs)) : listAt σ t = some vs := by unfold listAt; rw [h]; rfl
theorem eq_seq (hx : seqOf σ x = some vs) (hy : seqOf σ y = some vs) (hd : ∀ v ∈ vs, ∃ d, dataOf σ 5 v = some d) : eqV σ x y = some true := by
  obtain ⟨ds, e⟩ := mapO_all hd
  have key : ∀ {z}, seqOf σ z = some vs → dataOf σ 6 z = some (.list ds) := fun {z} h => by
    cases z with
    | lst us => cases h; show (mapO (dataOf σ 5) _).map PyData.list = _; rw [e]; rfl
    | ref i => show onO (listAt σ i) _ = _; rw [show listAt σ i = some vs from h]; show (mapO (dataOf σ 5) vs).map PyData.list = _; rw [e]; rfl
    | _ => cases h
  unfold eqV
  rw [key hx, key hy]
  exact congrArg some (eqv_data 6 x _ (key hx))
theorem len_ref (h : σ.get t = some (.list l vs)) : bfV .len [.ref t] σ = some (.ok (.int vs.length), σ) := by
  show retV (((σ.get t).bind O.len).map _) σ = _
  rw [h]; rfl
theorem inst_list (P : Prog) (h : seqOf σ x = some vs) : isinstV P σ x .list = some true := by
  show (seqOf σ x).map _ = _
  rw [h]; rfl
theorem items_ref (h : σ.get t = some (.list l vs)) : itemsOf σ (.ref t) = some vs := oO h
theorem lock_ref (h : σ.get t = some (.list l vs)) : lockV σ (.ref t) = σ.set t (.list true vs) := by unfold lockV; simp only [h]; rfl
theorem unlock_ref {σ₁ : St} (h : σ.get t = some (.list l vs)) : unlockV σ (.ref t) σ₁ = σ₁.set t (.list l vs) := by unfold unlockV; simp only [h]
theorem relock (h : σ.get t = some (.list l vs)) : unlockV σ (.ref t) (lockV σ (.ref t)) = σ := by rw [lock_ref h, unlock_ref h, set_set, set_same h]
theorem clear_at (h : σ.get t = some (.list false vs)) : bmV .clear (.ref t) [] σ = some (.ok .none, σ.set t (.list false [])) := by
  show onO ((σ.get t).bind O.free) _ = _
  rw [h]; rfl
theorem append_at {v : V} (h : σ.get t = some (.list false vs)) (hl : vs.length < lim) : bmV .append (.ref t) [v] σ = some (.ok .none, σ.set t (.list false (vs ++ [v]))) := by
  show onO ((σ.get t).bind O.free) _ = _
  rw [h]; exact if_pos hl
theorem pre_list {m : Bm} (h : σ.get t = some (.list l vs)) (hm : m.knd = 1) : bmPre σ m (.ref t) = true := by unfold bmPre kndV; simp only [h]; rw [hm]; rfl
theorem cmp_ne {b : Bool} (h : eqV σ x y = some b) : cmpV σ .ne x y = some (!b) := by show (eqV σ x y).map _ = _; rw [h]; rfl
theorem ne_int {i j : Int} : cmpV σ .ne (.int i) (.int j) = some (!(i == j)) := rfl
theorem ne_self {i : Int} : cmpV σ .ne (.int i) (.int i) = some false := ne_int.trans (by rw [beq_self_eq_true]; rfl)
end
end Lw
namespace Lw
open PySem
theorem nodup_len {α : Type} [BEq α] [LawfulBEq α] {l : List α} : ∀ {m : List α}, l.Nodup → (∀ x ∈ l, x ∈ m) → l.length ≤ m.length := by
  induction l with
  | nil => intro m _ _; exact Nat.zero_le _
  | cons x r ih =>
    intro m hn hs
    obtain ⟨h1, h2⟩ := List.nodup_cons.mp hn
    have hm := hs x (List.mem_cons_self ..)
    have ih := ih (m := m.erase x) h2 fun y hy => (List.mem_erase_of_ne fun (e : y = x) => h1 (e ▸ hy)).mpr (hs y (List.mem_cons_of_mem _ hy))
    rw [List.length_erase_of_mem hm] at ih
    exact Nat.le_trans (Nat.succ_le_succ ih) (Nat.le_of_eq (Nat.sub_add_cancel (List.length_pos_of_mem hm)))
noncomputable def rowStep (D : List (Str × V)) : V → List (Str × V)
  | .tup [_, _, .str w, .str k, x] => if w == (Str.ofString "put") then st D k x else if (lk D k).isSome then rm D k else D
  | _ => D
section
variable {σ : St} {d : Nat} {l : Bool} {D : List (Str × V)}
theorem item_ds {k : Str} {v : V} (h : σ.get d = some (.ds l D)) (hv : lk D k = some v) : idxV σ (.ref d) (.str k) = some v := by
  show (σ.get d).bind _ = _
  rw [h]; exact hv
theorem put_ds {k : Str} {v : V} (h : σ.get d = some (.ds false D)) (hl : D.length < lim) : setidxV (.ref d) (.str k) v σ = some (σ.set d (.ds false (st D k v))) := by
  show onO (σ.get d) _ = _
  rw [h]
  show (if _ then _ else _ : Option O).map _ = _
  rw [if_pos hl]; rfl
theorem in_ds {k : Str} (h : σ.get d = some (.ds l D)) : cmpV σ .isin (.str k) (.ref d) = some (lk D k).isSome := by
  show onO (σ.get d) _ = _
  rw [h]; rfl
theorem pop_ds {k : Str} {v : V} (h : σ.get d = some (.ds false D)) (hv : lk D k = some v) : bmV .pop (.ref d) [.str k] σ = some (.ok v, σ.set d (.ds false (rm D k))) := by
  show onO (σ.get d) _ = _
  rw [h]
  show onO ((lk D k).map _) _ = _
  rw [hv]; rfl
theorem pre_ds {m : Bm} (h : σ.get d = some (.ds l D)) (hm : m.knd = 2) : bmPre σ m (.ref d) = true := by unfold bmPre kndV; simp only [h]; rw [hm]; rfl
theorem eq_str {a b : Str} : cmpV σ .eq (.str a) (.str b) = some (a == b) := rfl
end
end Lw
namespace Lw
open PySem
theorem loop_fold {α : Type} {f : V → Rho → St → RS} (step : α → V → α) (I : Nat → α → Rho → St → Prop) : ∀ (xs : List V) (a : α) (ρ : Rho) (σ : St), I xs.length a ρ σ → (∀ v ∈ xs, ∀ m b ρ σ, I (m + 1) b ρ σ → ∃ ρ' σ', f v ρ σ = some (.next, ρ', σ') ∧ I m (step b v) ρ' σ') → ∃ ρ' σ', loop f xs ρ σ = some (.next, ρ', σ') ∧ I 0 (xs.foldl step a) ρ' σ' := by
  intro r
  induction r with
  | nil =>
    intro a ρ σ h _
    exact ⟨ρ, σ, rfl, h⟩
  | cons v r ih =>
    intro a ρ σ h hs
    obtain ⟨ρ₁, σ₁, e, h1⟩ := hs v (List.mem_cons_self ..) _ a ρ σ h
    obtain ⟨ρ₂, σ₂, e2, h2⟩ := ih (step a v) ρ₁ σ₁ h1 fun u hu => hs u (List.mem_cons_of_mem _ hu)
    exact ⟨ρ₂, σ₂, (bS e).trans e2, h2⟩
structure Fr (A : List Nat) (σ σ' : St) : Prop where
  n : σ.n ≤ σ'.n
  at_ : ∀ j, j < σ.n → j ∉ A → σ'.get j = σ.get j
theorem Fr.refl {A : List Nat} {σ : St} : Fr A σ σ := ⟨Nat.le_refl _, fun _ _ _ => rfl⟩
theorem Fr.trans {A : List Nat} {a b c : St} (h : Fr A a b) (k : Fr A b c) : Fr A a c := ⟨Nat.le_trans h.n k.n, fun j hj hA => (k.at_ j (Nat.lt_of_lt_of_le hj h.n) hA).trans (h.at_ j hj hA)⟩
theorem Fr.mono {A B : List Nat} {a b : St} (h : Fr A a b) (k : ∀ j ∈ A, j ∈ B) : Fr B a b := ⟨h.n, fun j hj hB => h.at_ j hj fun q => hB (k j q)⟩
theorem Fr.set {A : List Nat} {σ σ' : St} {i : Nat} {o : O} (h : Fr A σ σ') (hi : i ∈ A ∨ σ.n ≤ i) : Fr A σ (σ'.set i o) := ⟨h.n, fun j hj hA => (get_set_ne (hi.elim (fun q (e : j = i) => hA (e ▸ q)) fun q (e : j = i) => by lia)).trans (h.at_ j hj hA)⟩
theorem Fr.new {A : List Nat} {σ σ' : St} {o : O} (h : Fr A σ σ') : Fr A σ (σ'.new o) := ⟨Nat.le_succ_of_le h.n, fun j hj hA => (get_new_lt (Nat.lt_of_lt_of_le hj h.n)).trans (h.at_ j hj hA)⟩
theorem unlock_get {σ σ' : St} {t j : Nat} {l : Bool} {vs : List V} (h : σ.get t = some (.list l vs)) : (unlockV σ (.ref t) σ').get j = if j = t then σ.get t else σ'.get j := by
  rw [unlock_ref h, get_set]
  split
  · exact h.symm
  · rfl
section
variable {M : Mc} {ρ : Rho} {σ : St} {R : RS} {r : List S}
theorem row_exec {kv d : Nat} {de : E} {D : List (Str × V)} {a b : V} {w k x : Str} (hv : ρ kv = some (.tup [a, b, .str w, .str k, .str x])) (hde : Ev M ρ σ de (.ref d) σ) (hd : σ.get d = some (.ds false D)) (hl : D.length < lim)
    (q : Ex M r ρ (σ.set d (.ds false (rowStep D (.tup [a, b, .str w, .str k, .str x])))) R) :
    Ex M (.ite (.cmp .eq (.idx (.var kv) (.cInt 2)) (.cStr "put")) [.setidx de (.idx (.var kv) (.cInt 3)) (.idx (.var kv) (.cInt 4))] [.ite (.cmp .isin (.idx (.var kv) (.cInt 3)) de) [.expr (.bmeth .pop de [(.idx (.var kv) (.cInt 3))])] []] :: r) ρ σ R := by
  have hc : Ev M ρ σ (.cmp .eq (.idx (.var kv) (.cInt 2)) (.cStr "put")) (.bool (w == Str.ofString "put")) σ := .cmp (.idx (.var hv) .cInt rfl) .cStr eq_str
  have q : Ex M r ρ (σ.set d (.ds false (if (w == Str.ofString "put") = true then st D k (.str x) else if (lk D k).isSome = true then rm D k else D))) R := q
  cases hw : w == Str.ofString "put" with
  | true =>
    rw [hw] at hc q
    exact .iteT hc rfl (.setidx (.idx (.var hv) .cInt rfl) hde (.idx (.var hv) .cInt rfl) (put_ds hd hl) q)
  | false =>
    rw [hw, if_neg Bool.false_ne_true] at q
    rw [hw] at hc
    have hi : Ev M ρ σ (.cmp .isin (.idx (.var kv) (.cInt 3)) de) (.bool (lk D k).isSome) σ := .cmp (.idx (.var hv) .cInt rfl) hde (in_ds hd)
    cases hk : lk D k with
    | some v =>
      rw [hk] at hi q
      exact .iteF hc rfl (.iteT hi rfl (.expr (.bmeth hde (pre_ds hd rfl) (.cons (.idx (.var hv) .cInt rfl) .nil) rfl (pop_ds hd hk)) q))
    | none =>
      rw [hk] at hi q
      rw [show (if (none : Option V).isSome = true then rm D k else D) = D from rfl, set_same hd] at q
      exact .iteF hc rfl (.iteF hi rfl q)
end
end Lw
namespace Lw
open PySem
section
variable {σ : St} {xs : List V} {d g : Nat} {l : Bool}
end
end Lw
namespace Lw
open PySem
section
variable {M : Mc} {ρ : Rho} {σ : St} {a b d : E} {p q r : Bool}
theorem Ev.and2 (ha : Ev M ρ σ a (.bool p) σ) (hb : Ev M ρ σ b (.bool q) σ) : Ev M ρ σ (.bool true [a, b]) (.bool (p && q)) σ := by
  cases p with
  | true => exact .boolC ha rfl (.bool1 hb)
  | false => exact .boolS ha rfl
theorem Ev.and3 (ha : Ev M ρ σ a (.bool p) σ) (hb : Ev M ρ σ b (.bool q) σ) (hd : Ev M ρ σ d (.bool r) σ) : Ev M ρ σ (.bool true [a, b, d]) (.bool (p && (q && r))) σ := by
  cases p with
  | true => exact .boolC ha rfl (Ev.and2 (p := q) (q := r) hb hd)
  | false => exact .boolS ha rfl
end
end Lw
namespace Lw
open PySem
section
variable {κ ν μ : Type} [DecidableEq κ] {D : List (κ × ν)} {k j : κ} {v : ν}
theorem lkCons {e : κ × ν} : lk (e :: D) k = if e.1 = k then some e.2 else lk D k := by
  unfold lk
  rw [List.find?_cons]
  by_cases h : e.1 = k
  · rw [if_pos h, decide_eq_true h]; rfl
  · rw [if_neg h, decide_eq_false h]
theorem lk_none {D : List (κ × ν)} {k : κ} (h : ¬ (D.any fun kv => decide (kv.1 = k)) = true) : lk D k = none := by
  unfold lk
  cases q : D.find? (fun kv => decide (kv.1 = k)) with
  | none => rfl
  | some e => exact absurd (List.any_eq_true.mpr ⟨e, List.mem_of_find?_eq_some q, List.find?_some q⟩) h
theorem lk_app {D E : List (κ × ν)} : lk (D ++ E) k = (lk D k).or (lk E k) := by
  unfold lk
  rw [List.find?_append]
  cases D.find? (fun kv => decide (kv.1 = k)) <;> rfl
theorem lk_st : lk (st D k v) j = if j = k then some v else lk D j := by
  unfold st
  split
  · rename_i h
    induction D with
    | nil => cases h
    | cons x D ih =>
      obtain ⟨e, he, hk⟩ := List.any_eq_true.mp h
      rw [List.map_cons, lkCons, lkCons]
      by_cases hx : x.1 = k
      · rw [if_pos hx]
        by_cases hj : j = k
        · subst hj; rw [if_pos rfl, if_pos hx]
        · rw [if_neg hj, if_neg (fun q : x.1 = j => hj (q ▸ hx)), if_neg (fun q : x.1 = j => hj (q ▸ hx))]
          by_cases hD : (D.any fun kv => decide (kv.1 = k)) = true
          · have := ih hD
            rw [if_neg hj] at this; exact this
          · congr 1
            exact (List.map_congr_left fun q hq => if_neg fun z => hD (List.any_eq_true.mpr ⟨q, hq, decide_eq_true z⟩)).trans (List.map_id _)
      · rw [if_neg hx]
        rcases List.mem_cons.mp he with rfl | he
        · exact absurd (of_decide_eq_true hk) hx
        · have hD : (D.any fun kv => decide (kv.1 = k)) = true := List.any_eq_true.mpr ⟨e, he, hk⟩
          by_cases hxj : x.1 = j
          · rw [if_pos hxj, if_pos hxj, if_neg fun q => hx (hxj.trans q)]
          · rw [if_neg hxj, if_neg hxj]
            exact ih hD
  · rename_i h
    rw [lk_app, lkCons]
    by_cases hj : j = k
    · subst hj; rw [if_pos rfl, if_pos rfl, lk_none h]; rfl
    · rw [if_neg hj, if_neg fun q => hj q.symm]
      cases lk D j <;> rfl
theorem lk_rm : lk (rm D k) j = if j = k then none else lk D j := by
  unfold rm
  induction D with
  | nil => split <;> rfl
  | cons x D ih =>
    by_cases hx : x.1 = k
    · rw [List.filter_cons_of_neg (by simp [hx]), ih]
      by_cases hj : j = k
      · rw [if_pos hj, if_pos hj]
      · rw [if_neg hj, if_neg hj, lkCons, if_neg fun q => hj (q.symm.trans hx)]
    · rw [List.filter_cons_of_pos (by simp [hx]), lkCons, lkCons, ih]
      by_cases hj : j = k
      · rw [if_pos hj, if_pos hj, if_neg fun q => hx (q.trans hj)]
      · rw [if_neg hj, if_neg hj]
theorem st_len : (st D k v).length ≤ D.length + 1 := by
  unfold st
  split
  · rw [List.length_map]; lia
  · rw [List.length_append]; exact Nat.le_refl _
theorem rm_len : (rm D k).length ≤ D.length := List.length_filter_le ..
theorem lk_key (h : k ∈ D.map (·.1)) : ∃ v, lk D k = some v := by
  obtain ⟨e, he, rfl⟩ := List.mem_map.mp h
  cases q : lk D e.1 with
  | some v => exact ⟨v, rfl⟩
  | none =>
    obtain h := Option.map_eq_none_iff.mp q
    exact absurd (decide_eq_true rfl) (List.find?_eq_none.mp h e he)
noncomputable def vals (f : ν → μ) (D : List (κ × ν)) : List (κ × μ) := D.map fun kv => (kv.1, f kv.2)
variable {f : ν → μ}
theorem lk_vals : lk (vals f D) k = (lk D k).map f := by
  unfold vals
  induction D with
  | nil => rfl
  | cons x D ih =>
    rw [List.map_cons, lkCons, lkCons]
    by_cases h : x.1 = k
    · rw [if_pos h, if_pos h]; rfl
    · rw [if_neg h, if_neg h]; exact ih
theorem st_vals : st (vals f D) k (f v) = vals f (st D k v) := by
  have e : ((vals f D).any fun kv => decide (kv.1 = k)) = (D.any fun kv => decide (kv.1 = k)) := by unfold vals; rw [List.any_map]; rfl
  unfold st
  rw [e]
  split
  · unfold vals
    rw [List.map_map, List.map_map]
    exact List.map_congr_left fun q _ => by
      show (if q.1 = k then (q.1, f v) else (q.1, f q.2)) = ((if q.1 = k then (q.1, v) else q).1, f (if q.1 = k then (q.1, v) else q).2)
      split <;> rfl
  · unfold vals; rw [List.map_append]; rfl
theorem rm_vals : rm (vals f D) k = vals f (rm D k) := by
  unfold rm vals
  rw [List.filter_map]; rfl
omit [DecidableEq κ] in
omit [DecidableEq κ] in
theorem len_vals : (vals f D).length = D.length := List.length_map ..
end
section
variable {σ σ₁ : St} {d : Nat} {l : Bool} {D : List (Int × V)} {k : Int} {v : V}
theorem item_di (h : σ.get d = some (.di l D)) (hv : lk D k = some v) : idxV σ (.ref d) (.int k) = some v := by
  show (σ.get d).bind _ = _
  rw [h]; exact hv
theorem put_di (h : σ.get d = some (.di false D)) (hl : D.length < lim) : setidxV (.ref d) (.int k) v σ = some (σ.set d (.di false (st D k v))) := by
  show onO (σ.get d) _ = _
  rw [h]
  show (if _ then _ else _ : Option O).map _ = _
  rw [if_pos hl]; rfl
theorem in_di (h : σ.get d = some (.di l D)) : cmpV σ .isin (.int k) (.ref d) = some (lk D k).isSome := by
  show onO (σ.get d) _ = _
  rw [h]; rfl
theorem notin_di (h : σ.get d = some (.di l D)) : cmpV σ .notin (.int k) (.ref d) = some (!(lk D k).isSome) := by
  show (onO (σ.get d) _).map _ = _
  rw [h]; rfl
theorem notin_ds {D : List (Str × V)} {k : Str} (h : σ.get d = some (.ds l D)) : cmpV σ .notin (.str k) (.ref d) = some (!(lk D k).isSome) := by
  show (onO (σ.get d) _).map _ = _
  rw [h]; rfl
theorem pop_di (h : σ.get d = some (.di false D)) (hv : lk D k = some v) : bmV .pop (.ref d) [.int k] σ = some (.ok v, σ.set d (.di false (rm D k))) := by
  show onO (σ.get d) _ = _
  rw [h]
  show onO ((lk D k).map _) _ = _
  rw [hv]; rfl
theorem pre_di {m : Bm} (h : σ.get d = some (.di l D)) (hm : m.knd = 2) : bmPre σ m (.ref d) = true := by unfold bmPre kndV; simp only [h]; rw [hm]; rfl
theorem items_di (h : σ.get d = some (.di l D)) : itemsOf σ (.ref d) = some (D.map fun kv => .int kv.1) := oO h
theorem lock_di (h : σ.get d = some (.di l D)) : lockV σ (.ref d) = σ.set d (.di true D) := by unfold lockV; simp only [h]; rfl
theorem unlock_di (h : σ.get d = some (.di l D)) : unlockV σ (.ref d) σ₁ = σ₁.set d (.di l D) := by unfold unlockV; simp only [h]
theorem relock_di (h : σ.get d = some (.di l D)) : unlockV σ (.ref d) (lockV σ (.ref d)) = σ := by rw [lock_di h, unlock_di h, set_set, set_same h]
theorem attr_at {i : Nat} {c a : String} {fs : List (String × V)} (h : σ.get i = some (.inst c fs)) (hv : lk fs a = some v) : attrV σ (.ref i) a = some v := by
  show onO (σ.get i) _ = _
  rw [h]; exact hv
theorem setattr_at {i : Nat} {c a : String} {fs : List (String × V)} (h : σ.get i = some (.inst c fs)) (hl : fs.length < 100) : setattrV (.ref i) a v σ = some (σ.set i (.inst c (setF fs a v))) := by
  show onO (σ.get i) _ = _
  rw [h]
  show (if _ then _ else _ : Option O).map _ = _
  rw [if_pos hl]; rfl
theorem meth_at {P : Prog} {i : Nat} {c m : String} {fs : List (String × V)} (h : σ.get i = some (.inst c fs)) (hf : ((lk fs m).isNone && (P.fns c m).isSome) = true) : methV P σ (.ref i) m = some c := by
  show onO (σ.get i) _ = _
  rw [h]; exact if_pos hf
end
section
variable {σ σ₁ : St} {d : Nat} {l : Bool} {D : List (Str × V)} {k : Str} {v : V}
theorem items_ds (h : σ.get d = some (.ds l D)) : itemsOf σ (.ref d) = some (D.map fun kv => .str kv.1) := oO h
theorem lock_ds (h : σ.get d = some (.ds l D)) : lockV σ (.ref d) = σ.set d (.ds true D) := by unfold lockV; simp only [h]; rfl
theorem unlock_ds (h : σ.get d = some (.ds l D)) : unlockV σ (.ref d) σ₁ = σ₁.set d (.ds l D) := by unfold unlockV; simp only [h]
theorem relock_ds (h : σ.get d = some (.ds l D)) : unlockV σ (.ref d) (lockV σ (.ref d)) = σ := by rw [lock_ds h, unlock_ds h, set_set, set_same h]
theorem sortS_at {ss : List Str} (hl : ss.length < 64) : bfV (.sorted false false) [.lst (ss.map .str)] σ = some (.ok (.lst ((ss.mergeSort strLe).map .str)), σ) := by
  show onO (sortV false (ss.map .str)) _ = _
  unfold sortV
  rw [if_pos (by rw [List.length_map]; exact hl)]
  show onO ((asStrs _).map _) _ = _
  rw [asStrs_map]; rfl
end
theorem lim1 : 1 ≤ lim := by decide
theorem lim2 : 2 ≤ lim := by decide
end Lw
namespace Lw
open PySem
theorem Ex.for1R {M : Mc} {ρ ρ' : Rho} {σ σ₁ σ₂ : St} {a : E} {x v : V} {xs : List V} {k : Nat} {tb r : List S} (hh : M.hd = false) (h : Ev M ρ σ a x σ₁) (hi : itemsOf σ₁ x = some xs) (hl : loop (fun v ρ σ => execs M.P M.cl M.hd M.dr tb (upd ρ k v) σ) xs ρ (lockV σ₁ x) = some (.ret v, ρ', σ₂)) : Ex M (.for1 k a tb :: r) ρ σ (some (.ret v, ρ', unlockV σ₁ x σ₂)) := by
  obtain ⟨P, cl, hd, dr⟩ := M
  cases hh
  have e : exec P cl false dr (.for1 k a tb) ρ σ = some (.ret v, ρ', unlockV σ₁ x σ₂) := (bE h).trans ((oO hi).trans (by
    show loopEnd false σ₁ x (loop (fun v ρ σ => execs P cl false dr tb (upd ρ k v) σ) xs ρ (lockV σ₁ x)) = _
    rw [hl]; rfl))
  show bindS (exec P cl false dr (.for1 k a tb) ρ σ) _ = _
  rw [e]; rfl
noncomputable def keepR (p : Str) (b : Int) : V → Bool
  | .tup [.int i, _, _, .str k, _] => decide (b < i) && p.cps.toList.isPrefixOf k.cps.toList
  | _ => false
theorem take_step {α : Type} {x : α} {rs acc : List α} {f : α → Bool} {m : Nat} (h : acc.length < m) : (if f x then acc ++ [x] else acc) ++ (rs.filter f).take (m - (if f x then acc ++ [x] else acc).length) = acc ++ ((x :: rs).filter f).take (m - acc.length) := by
  cases q : f x with
  | true =>
    rw [if_pos rfl, List.filter_cons_of_pos q, List.append_assoc, List.length_append, show m - acc.length = (m - (acc.length + 1)) + 1 from (Nat.sub_add_cancel (Nat.sub_pos_of_lt h)).symm]; rfl
  | false => rw [if_neg Bool.false_ne_true, List.filter_cons_of_neg (by rw [q]; decide)]
noncomputable abbrev row (i t : Int) (w k x : Str) : V := .tup [.int i, .int t, .str w, .str k, .str x]
noncomputable def numR : V → Int
  | .tup (.int i :: _) => i
  | _ => 0
noncomputable def IsRow (v : V) : Prop := ∃ (i t : Int) (w k x : Str), v = row i t w k x
noncomputable def Hist (H : List V) : Prop := ∀ (i : Nat) (v : V), H[i]? = some v → ∃ (t : Int) (w k x : Str), v = row ((i : Int) + 1) t w k x
noncomputable def Inc (vs : List V) : Prop := vs.Pairwise fun a b => numR a < numR b
theorem Hist.nil : Hist [] := fun i v h => by rw [List.getElem?_nil] at h; cases h
theorem Hist.snoc {H : List V} {t : Int} {w k x : Str} (h : Hist H) : Hist (H ++ [row ((H.length : Int) + 1) t w k x]) := fun i v hv => by
  rcases Nat.lt_trichotomy i H.length with q | q | q
  · rw [List.getElem?_append_left q] at hv; exact h i v hv
  · subst q
    rw [List.getElem?_append_right (Nat.le_refl _), Nat.sub_self] at hv
    cases hv; exact ⟨t, w, k, x, rfl⟩
  · rw [List.getElem?_append_right (Nat.le_of_lt q), List.getElem?_eq_none (Nat.sub_pos_of_lt q)] at hv
    cases hv
theorem Hist.row {H : List V} (h : Hist H) : ∀ v ∈ H, IsRow v := fun v hv => by
  obtain ⟨i, hi⟩ := List.mem_iff_getElem?.mp hv
  obtain ⟨t, w, k, x, rfl⟩ := h i v hi
  exact ⟨_, _, _, _, _, rfl⟩
theorem Hist.num {H : List V} (h : Hist H) {i : Nat} {v : V} (hv : H[i]? = some v) : numR v = (i : Int) + 1 := by
  obtain ⟨t, w, k, x, rfl⟩ := h i v hv; rfl
theorem Hist.inc {H : List V} (h : Hist H) : Inc H := by
  refine List.pairwise_iff_getElem.mpr fun i j hi hj hij => ?_
  rw [h.num (List.getElem?_eq_getElem hi), h.num (List.getElem?_eq_getElem hj)]; lia
theorem Hist.bound {H : List V} (h : Hist H) : ∀ v ∈ H, 0 < numR v ∧ numR v ≤ H.length := fun v hv => by
  obtain ⟨i, hi⟩ := List.mem_iff_getElem?.mp hv
  have := (List.getElem?_eq_some_iff.mp hi).1
  rw [h.num hi]; lia
theorem Inc.sub {vs ws : List V} (h : Inc vs) (k : ws.Sublist vs) : Inc ws := h.sublist k
end Lw
namespace Lw
open PySem
noncomputable abbrev putS : Str := Str.ofString "put"
noncomputable abbrev preS (p k : Str) : Bool := p.cps.toList.isPrefixOf k.cps.toList
noncomputable def vstep (k : Str) (o : Option Str) : V → Option Str
  | .tup [_, _, .str w, .str k', .str x] => if k' = k then (if w == putS then some x else none) else o
  | _ => o
noncomputable def valH (H : List V) (k : Str) : Option Str := H.foldl (vstep k) none
noncomputable def preR (p : Str) : V → Bool
  | .tup [_, _, _, .str k, _] => preS p k
  | _ => false
noncomputable def putK1 : V → Option Str
  | .tup [_, _, .str w, .str k, _] => if w == putS then some k else none
  | _ => none
noncomputable def putK (H : List V) : List Str := H.filterMap putK1
section
variable {H A B : List V} {k k' x w p : Str} {i t c : Int} {o : Option Str} {v : V}
theorem valH_app : valH (A ++ B) k = B.foldl (vstep k) (valH A k) := List.foldl_append ..
theorem valH_snoc : valH (H ++ [row i t w k' x]) k = if k' = k then (if w == putS then some x else none) else valH H k := by rw [valH_app]; rfl
theorem putK_app : putK (A ++ B) = putK A ++ putK B := List.filterMap_append ..
theorem keepR_row (h : IsRow v) : keepR p c v = (decide (c < numR v) && preR p v) := by obtain ⟨i, t, w, k, x, rfl⟩ := h; rfl
theorem val_put : ∀ (B : List V) (o : Option Str), (∀ v ∈ B, IsRow v) → B.foldl (vstep k) o = some x → o = some x ∨ k ∈ putK B := by
  intro B
  induction B with
  | nil =>
    intro _ _ h
    exact .inl h
  | cons v B ih =>
    intro o hr h
    have hc : ∀ {y}, y ∈ putK B → y ∈ putK (v :: B) := fun {y} hy => by
      unfold putK
      rw [List.filterMap_cons]
      cases putK1 v with
      | none => exact hy
      | some z => exact List.mem_cons_of_mem _ hy
    rcases ih (vstep k o v) (fun v hv => hr v (List.mem_cons_of_mem _ hv)) h with q | q
    · obtain ⟨i, t, w, k', y, rfl⟩ := hr v (List.mem_cons_self ..)
      have q : (if k' = k then (if w == putS then some y else none) else o) = some x := q
      by_cases e : k' = k
      · rw [if_pos e] at q
        cases hw : w == putS with
        | true =>
          refine .inr ?_
          unfold putK
          rw [List.filterMap_cons, show putK1 (row i t w k' y) = some k from (if_pos hw).trans (congrArg some e)]
          exact List.mem_cons_self ..
        | false => rw [hw] at q; cases q
      · rw [if_neg e] at q; exact .inl q
    · exact .inr (hc q)
theorem valH_put (hr : ∀ v ∈ H, IsRow v) (h : valH H k = some x) : k ∈ putK H := (val_put H none hr h).resolve_left fun e => nomatch e
end
section
variable {κ ν : Type} [DecidableEq κ] {D : List (κ × ν)} {k : κ} {v : ν}
theorem st_nd (h : (D.map (·.1)).Nodup) : ((st D k v).map (·.1)).Nodup := by
  unfold st
  split
  · rw [List.map_map, show ((fun x : κ × ν => x.1) ∘ fun kv : κ × ν => if kv.1 = k then (kv.1, v) else kv) = fun kv => kv.1 by funext kv; show (if _ then _ else _ : κ × ν).1 = _; split <;> rfl]; exact h
  · rename_i hn
    rw [List.map_append]
    refine List.nodup_append.mpr ⟨h, List.nodup_cons.mpr ⟨(fun h => nomatch h), List.nodup_nil⟩, fun a ha b hb e => hn ?_⟩
    cases List.mem_singleton.mp hb
    obtain ⟨q, hq, e2⟩ := List.mem_map.mp ha
    exact List.any_eq_true.mpr ⟨q, hq, decide_eq_true (e2.trans e)⟩
theorem rm_nd (h : (D.map (·.1)).Nodup) : ((rm D k).map (·.1)).Nodup := h.sublist (List.filter_sublist.map _)
theorem rm_lt (h : lk D k = some v) : (rm D k).length < D.length := by
  obtain ⟨e, he, _⟩ := Option.map_eq_some_iff.mp h
  have h2 : e.1 = k := by simpa using List.find?_some he
  unfold rm
  refine List.length_filter_lt_length_iff_exists.mpr ⟨e, List.mem_of_find?_eq_some he, fun q => of_decide_eq_true q h2⟩
theorem key_lk (h : lk D k = some v) : k ∈ D.map (·.1) := by
  obtain ⟨e, he, _⟩ := Option.map_eq_some_iff.mp h
  have h2 : e.1 = k := by simpa using List.find?_some he
  exact List.mem_map.mpr ⟨e, List.mem_of_find?_eq_some he, h2⟩
end
noncomputable def earStep (s : Int × List V × List (Str × V)) (v : V) : Int × List V × List (Str × V) := if s.1 < numR v then (numR v, s.2.1 ++ [v], rowStep s.2.2 v) else s
section
variable {H : List V} {p : Str} {c c' t : Int} {D : List (Str × V)}
theorem first_keep {v : V} {r : List V} (hH : Hist H) (h : H.filter (keepR p c) = v :: r) : v ∈ H ∧ c < numR v ∧ preR p v = true ∧ H.filter (keepR p (numR v)) = r ∧ ∀ u ∈ H, c < numR u → preR p u = true → numR v ≤ numR u := by
  have hm : v ∈ H.filter (keepR p c) := by rw [h]; exact List.mem_cons_self ..
  obtain ⟨h1, h2⟩ := List.mem_filter.mp hm
  rw [keepR_row (hH.row v h1)] at h2
  obtain ⟨h2, h3⟩ := Bool.and_eq_true_iff.mp h2
  have h2 := of_decide_eq_true h2
  have hi : Inc (v :: r) := h ▸ hH.inc.sub List.filter_sublist
  obtain ⟨i1, i2⟩ := List.pairwise_cons.mp hi
  refine ⟨h1, h2, h3, ?_, fun u hu k1 k2 => ?_⟩
  · have e : H.filter (keepR p (numR v)) = (H.filter (keepR p c)).filter fun u => decide (numR v < numR u) := by
      rw [List.filter_filter]
      refine List.filter_congr fun u hu => ?_
      rw [keepR_row (hH.row u hu), keepR_row (hH.row u hu)]
      by_cases q : numR v < numR u
      · rw [decide_eq_true q, decide_eq_true (show c < numR u by lia)]; rfl
      · rw [decide_eq_false q]; rfl
    rw [e, h, List.filter_cons_of_neg (by simp), List.filter_eq_self.mpr fun u hu => decide_eq_true (i1 u hu)]
  · have : u ∈ v :: r := by rw [← h]; exact List.mem_filter.mpr ⟨hu, by rw [keepR_row (hH.row u hu), decide_eq_true k1, k2]; rfl⟩
    rcases List.mem_cons.mp this with rfl | q
    · exact Int.le_refl _
    · exact Int.le_of_lt (i1 u q)
noncomputable def lastN (c : Int) (xs : List V) : Int := match xs.getLast? with
  | some v => numR v
  | none => c
theorem lastN_cons {v : V} {xs : List V} : lastN c (v :: xs) = lastN (numR v) xs := by
  unfold lastN
  rw [List.getLast?_cons]
  cases xs.getLast? <;> rfl
end
end Lw
namespace Lw
open PySem
noncomputable abbrev cutS : Str := Str.ofString "cut"
noncomputable def tickR : V → Int
  | .tup [_, .int t, _, _, _] => t
  | _ => 0
structure RowOk (mine : List (Int × V)) (now : Int) (H : List V) (i : Nat) (v : V) : Prop where
  ex : ∃ (t : Int) (w k x : Str), v = row ((i : Int) + 1) t w k x ∧ (0 ≤ t ∧ t ≤ now) ∧ (w = cutS → (valH H k).isSome = true) ∧ (lk mine ((i : Int) + 1) = some v ∨ (lk mine ((i : Int) + 1) = none ∧ w = cutS ∧ x = Str.ofString ""))
structure Tale (H : List V) (mine : List (Int × V)) (now : Int) : Prop where
  row : ∀ (i : Nat) (v : V), H[i]? = some v → RowOk mine now (H.take i) i v
  up : ∀ (i : Nat) (a b : V), H[i]? = some a → H[i + 1]? = some b → tickR a ≤ tickR b
  key : ∀ e ∈ mine, 1 ≤ e.1 ∧ e.1 ≤ H.length
section
variable {H : List V} {mine : List (Int × V)} {now now' t : Int} {w k x : Str}
theorem Tale.nil : Tale [] [] now := ⟨fun i v h => (by rw [List.getElem?_nil] at h; cases h), fun i a b h => (by rw [List.getElem?_nil] at h; cases h), fun e h => nomatch h⟩
theorem Tale.later (T : Tale H mine now) (h : now ≤ now') : Tale H mine now' :=
  ⟨fun i v hv => let ⟨t, w, k, x, h1, h2, h3⟩ := (T.row i v hv).ex; ⟨t, w, k, x, h1, ⟨h2.1, Int.le_trans h2.2 h⟩, h3⟩, T.up, T.key⟩
theorem Tale.snoc (T : Tale H mine now) (lo : ∀ v ∈ H, tickR v ≤ t) (ht : 0 ≤ t ∧ t ≤ now) (hc : w = cutS → (valH H k).isSome = true) {mine' : List (Int × V)} (hm : ∀ i : Int, i ≠ (H.length : Int) + 1 → lk mine' i = lk mine i) (hk : ∀ e ∈ mine', 1 ≤ e.1 ∧ e.1 ≤ (H.length : Int) + 1)
    (hl : lk mine' ((H.length : Int) + 1) = some (Lw.row ((H.length : Int) + 1) t w k x) ∨ (lk mine' ((H.length : Int) + 1) = none ∧ w = cutS ∧ x = Str.ofString "")) : Tale (H ++ [Lw.row ((H.length : Int) + 1) t w k x]) mine' now := by
  refine ⟨fun i v hv => ?_, fun i a b ha hb => ?_, fun e he => ?_⟩
  · rcases Nat.lt_trichotomy i H.length with q | q | q
    · rw [List.getElem?_append_left q] at hv
      obtain ⟨t', w', k', x', h1, h2, h3, h4⟩ := (T.row i v hv).ex
      refine ⟨t', w', k', x', h1, h2, ?_, ?_⟩
      · rw [List.take_append_of_le_length (Nat.le_of_lt q)]; exact h3
      · rw [hm _ fun z => Nat.ne_of_lt q (Int.ofNat_inj.mp ((Int.add_left_inj 1).mp z))]; exact h4
    · subst q
      rw [List.getElem?_append_right (Nat.le_refl _), Nat.sub_self] at hv
      cases hv
      exact ⟨t, w, k, x, rfl, ht, by rw [List.take_append_of_le_length (Nat.le_refl _), List.take_of_length_le (Nat.le_refl _)]; exact hc, hl⟩
    · rw [List.getElem?_append_right (Nat.le_of_lt q), List.getElem?_eq_none (Nat.sub_pos_of_lt q)] at hv; cases hv
  · by_cases q : i + 1 < H.length
    · rw [List.getElem?_append_left (Nat.lt_of_succ_lt q)] at ha
      rw [List.getElem?_append_left q] at hb
      exact T.up i a b ha hb
    · by_cases q2 : i + 1 = H.length
      · rw [List.getElem?_append_left (q2 ▸ Nat.lt_succ_self i)] at ha
        rw [List.getElem?_append_right (Nat.le_of_eq q2.symm), q2, Nat.sub_self] at hb
        cases hb
        exact lo a (List.mem_of_getElem? ha)
      · rw [List.getElem?_append_right (Nat.le_of_not_lt q), List.getElem?_eq_none (Nat.sub_pos_of_lt (Nat.lt_of_le_of_ne (Nat.le_of_not_lt q) fun z => q2 z.symm))] at hb; cases hb
  · rw [List.length_append]; exact hk e he
end
end Lw
namespace Lw
open PySem PySem.W PyProof.Rows
theorem askT_bind {α β : Type} {c : Nat → Nat → Bool} {f : α → KasT β} : ∀ (t : KasT α), askT c (t.bind f) = askT c (f (askT c t))
  | .ret _ => rfl
  | .ask i j k => askT_bind (k (c i j))
structure Ord (n : Nat) (c : Nat → Nat → Bool) : Prop where
  tr : ∀ i j k, c i j = true → c j k = true → c i k = true
  tot : ∀ i j, i < n → j < n → i ≠ j → c i j = false → c j i = true
noncomputable abbrev at0 (p : Array Nat) (k : Nat) : Nat := p.getD k 0
structure Ixs (n : Nat) (p : Array Nat) : Prop where
  size : p.size = n
  lt : ∀ k, k < n → at0 p k < n
  inj : ∀ i j, i < n → j < n → at0 p i = at0 p j → i = j
theorem ixs_of {n : Nat} {p : Array Nat} (h : PermN n p) : Ixs n p := by
  have hl : p.toList.Perm (List.range n) := Array.perm_iff_toList_perm.mp h
  have hs : p.size = n := by rw [← Array.length_toList, hl.length_eq, List.length_range]
  have hg : ∀ k, k < n → p.toList[k]? = some (at0 p k) := fun k hk => by
    have : k < p.size := hs ▸ hk
    simp [at0, Array.getD, this]
  refine ⟨hs, fun k hk => ?_, fun i j hi hj e => ?_⟩
  · exact List.mem_range.mp (hl.mem_iff.mp (List.mem_of_getElem? (hg k hk)))
  · have nd : p.toList.Nodup := hl.nodup_iff.mpr List.nodup_range
    exact (List.getElem?_inj (by rw [Array.length_toList, hs]; exact hi) nd).mp (by rw [hg i hi, hg j hj, e])
section
variable {n : Nat} {c : Nat → Nat → Bool} (O : Ord n c)
include O
noncomputable def Up (c : Nat → Nat → Bool) (p : Array Nat) (m : Nat) : Prop := ∀ i, i + 1 < m → c (at0 p i) (at0 p (i + 1)) = true
noncomputable def Down (c : Nat → Nat → Bool) (p : Array Nat) (m : Nat) : Prop := ∀ i, i + 1 < m → c (at0 p (i + 1)) (at0 p i) = true
omit O in
theorem Up.one {p : Array Nat} : Up c p 1 := fun i h => absurd (Nat.lt_of_succ_lt_succ h) (Nat.not_lt_zero i)
theorem Up.far {p : Array Nat} {m : Nat} (h : Up c p m) : ∀ (d i : Nat), i + d + 1 < m → c (at0 p i) (at0 p (i + d + 1)) = true := by
  intro d
  induction d with
  | zero =>
    intro i hi
    exact h i hi
  | succ d ih =>
    intro i hi
    exact O.tr _ _ _ (ih i (Nat.lt_of_succ_lt hi)) (h (i + d + 1) hi)
theorem Up.lt {p : Array Nat} {m i j : Nat} (h : Up c p m) (hij : i < j) (hj : j < m) : c (at0 p i) (at0 p j) = true := by
  obtain ⟨d, rfl⟩ := Nat.exists_eq_add_of_lt hij
  exact Up.far O h d i hj
theorem tot' {p : Array Nat} (I : Ixs n p) {i j : Nat} (hi : i < n) (hj : j < n) (hne : i ≠ j) (h : c (at0 p i) (at0 p j) = false) : c (at0 p j) (at0 p i) = true :=
  O.tot _ _ (I.lt i hi) (I.lt j hj) (fun e => hne (I.inj i j hi hj e)) h
theorem asc_up {p : Array Nat} (I : Ixs n p) : ∀ (f m : Nat), 1 ≤ m → m + f ≤ n → Up c p m → Up c p (askT c (kas_asc p f m)) ∧ m ≤ askT c (kas_asc p f m) ∧ askT c (kas_asc p f m) ≤ m + f ∧ (askT c (kas_asc p f m) = m + f ∨ c (at0 p (askT c (kas_asc p f m))) (at0 p (askT c (kas_asc p f m) - 1)) = true) := by
  intro f
  induction f with
  | zero =>
    intro m _ _ h
    exact ⟨h, Nat.le_refl _, Nat.le_refl _, .inl rfl⟩
  | succ f ih =>
    intro m h1 h2 h
    show Up c p (askT c (if c (at0 p m) (at0 p (m - 1)) = true then .ret m else kas_asc p f (m + 1))) ∧ _ ≤ askT c (if c (at0 p m) (at0 p (m - 1)) = true then .ret m else kas_asc p f (m + 1)) ∧ askT c (if c (at0 p m) (at0 p (m - 1)) = true then .ret m else kas_asc p f (m + 1)) ≤ _ ∧ (askT c (if c (at0 p m) (at0 p (m - 1)) = true then .ret m else kas_asc p f (m + 1)) = _ ∨ c (at0 p (askT c (if c (at0 p m) (at0 p (m - 1)) = true then .ret m else kas_asc p f (m + 1)))) (at0 p (askT c (if c (at0 p m) (at0 p (m - 1)) = true then .ret m else kas_asc p f (m + 1)) - 1)) = true)
    cases q : c (at0 p m) (at0 p (m - 1)) with
    | true => rw [if_pos rfl]; exact ⟨h, Nat.le_refl _, Nat.le_add_right _ _, .inr q⟩
    | false =>
      rw [if_neg Bool.false_ne_true]
      have ef : m + 1 + f = m + (f + 1) := by rw [Nat.add_assoc, Nat.add_comm 1 f]
      obtain ⟨k1, k2, k3, k4⟩ := ih (m + 1) (Nat.le_add_left ..) (ef.symm ▸ h2) fun i hi => by
        by_cases e : i + 1 < m
        · exact h i e
        · have e2 := Nat.le_antisymm (Nat.le_of_lt_succ hi) (Nat.le_of_not_lt e)
          subst e2
          have hn := Nat.lt_of_lt_of_le (Nat.lt_add_of_pos_right (Nat.succ_pos f)) h2
          exact tot' O I hn (Nat.lt_of_succ_lt hn) (Nat.succ_ne_self i) q
      rw [ef] at k3 k4
      exact ⟨k1, Nat.le_of_succ_le k2, k3, k4⟩
theorem desc_down {p : Array Nat} (I : Ixs n p) : ∀ (f m : Nat), 2 ≤ m → m + f ≤ n → Down c p m → ∃ m', askT c (kas_desc f p m 0) = (p, m', 0) ∧ Down c p m' ∧ m ≤ m' ∧ m' ≤ n := by
  intro f
  induction f with
  | zero =>
    intro m _ h2 h
    exact ⟨m, rfl, h, Nat.le_refl _, h2⟩
  | succ f ih =>
    intro m h1 h2 h
    cases q : c (at0 p m) (at0 p (m - 1)) with
    | true =>
      obtain ⟨m', k1, k2, k3, k4⟩ := ih (m + 1) (Nat.le_succ_of_le h1) (by rw [Nat.add_assoc, Nat.add_comm 1 f]; exact h2) fun i hi => by
        by_cases e : i + 1 < m
        · exact h i e
        · have e2 := Nat.le_antisymm (Nat.le_of_lt_succ hi) (Nat.le_of_not_lt e)
          subst e2; exact q
      refine ⟨m', ?_, k2, Nat.le_of_succ_le k3, k4⟩
      rw [← k1]
      show askT c (if c (at0 p m) (at0 p (m - 1)) = true then (if 0 > 0 then kas_desc f (kas_rev p (m - (0 + 1)) m) (m + 1) 0 else kas_desc f p (m + 1) 0) else _) = _
      rw [if_pos q, if_neg (by decide)]
    | false =>
      have hn : m < n := Nat.lt_of_lt_of_le (Nat.lt_add_of_pos_right (Nat.succ_pos f)) h2
      have t := tot' O I (i := m) (j := m - 1) hn (Nat.lt_of_le_of_lt (Nat.sub_le ..) hn) (Nat.ne_of_gt (Nat.sub_lt (Nat.lt_of_lt_of_le Nat.zero_lt_two h1) Nat.one_pos)) q
      refine ⟨m, ?_, h, Nat.le_refl _, Nat.le_of_lt hn⟩
      show askT c (if c (at0 p m) (at0 p (m - 1)) = true then _ else .ask (at0 p (m - 1)) (at0 p m) fun d => if d = true then .ret (p, m, 0) else kas_desc f p (m + 1) (0 + 1)) = _
      rw [if_neg (by rw [q]; decide)]
      show askT c (if c (at0 p (m - 1)) (at0 p m) = true then .ret (p, m, 0) else _) = _
      rw [if_pos t]; rfl
omit O in
theorem at_rev {p : Array Nat} {m k : Nat} (hm : m ≤ p.size) (hk : k < m) : at0 (kas_rev p 0 m) k = at0 p (m - 1 - k) := by
  have h := getElem?_mirror_all (xs := p) (i := 0) hm k
  have e : ∀ (q : Array Nat) (i : Nat), at0 q i = (q[i]?).getD 0 := fun q i => Array.getD_eq_getD_getElem?
  rw [e, e]
  show ((mirror p 0 m ((m - 0) / 2))[k]?).getD 0 = _
  rw [h, if_pos ⟨Nat.zero_le _, hk⟩, Nat.zero_add]
theorem count_up {p : Array Nat} (hp : PermN n p) (h0 : 0 < n) : Up c (askT c (kas_count n p)).2 (askT c (kas_count n p)).1 ∧ 1 ≤ (askT c (kas_count n p)).1 ∧ (askT c (kas_count n p)).1 ≤ n ∧ PermN n (askT c (kas_count n p)).2 := by
  have I := ixs_of hp
  unfold kas_count
  rw [askT_bind]
  obtain ⟨k1, k2, k3, k4⟩ := asc_up O I (n - 1) 1 (Nat.le_refl _) (Nat.le_of_eq (Nat.add_sub_cancel' h0)) Up.one
  rw [Nat.add_sub_cancel' h0] at k3 k4
  generalize askT c (kas_asc p (n - 1) 1) = m at k1 k2 k3 k4
  by_cases e : (m == n) = true
  · rw [if_pos e]; exact ⟨k1, k2, k3, hp⟩
  · rw [if_neg e]
    have e : m ≠ n := fun q => e (beq_iff_eq.mpr q)
    by_cases e1 : m > 1
    · rw [if_pos e1]
      show Up c (askT c (if c (at0 p 0) (at0 p (m - 1)) = true then .ret (m, p) else _)).2 (askT c (if c (at0 p 0) (at0 p (m - 1)) = true then .ret (m, p) else _)).1 ∧ 1 ≤ (askT c (if c (at0 p 0) (at0 p (m - 1)) = true then .ret (m, p) else _)).1 ∧ (askT c (if c (at0 p 0) (at0 p (m - 1)) = true then .ret (m, p) else _)).1 ≤ n ∧ PermN n (askT c (if c (at0 p 0) (at0 p (m - 1)) = true then .ret (m, p) else _)).2
      rw [if_pos (Up.lt O k1 (Nat.sub_pos_of_lt e1) (Nat.sub_lt k2 Nat.one_pos))]
      exact ⟨k1, k2, k3, hp⟩
    · rw [if_neg e1]
      have em : m = 1 := Nat.le_antisymm (Nat.le_of_not_lt e1) k2
      subst em
      have q : c (at0 p 1) (at0 p 0) = true := k4.resolve_left e
      unfold kas_descPart
      rw [askT_bind]
      obtain ⟨m', d1, d2, d3, d4⟩ := desc_down O I (n - (1 + 1)) (1 + 1) (Nat.le_refl _) (Nat.le_of_eq (Nat.add_sub_cancel' (Nat.lt_of_le_of_ne h0 e))) fun i hi => by
        have : i = 0 := Nat.eq_zero_of_le_zero (Nat.le_of_lt_succ (Nat.lt_of_succ_lt_succ hi))
        subst this; exact q
      rw [d1, if_neg (show ¬ ((p, m', 0).2.2 > 0) from Nat.lt_irrefl 0)]
      show Up c (askT c (kas_tail3 m' n p)).2 (askT c (kas_tail3 m' n p)).1 ∧ 1 ≤ (askT c (kas_tail3 m' n p)).1 ∧ (askT c (kas_tail3 m' n p)).1 ≤ n ∧ PermN n (askT c (kas_tail3 m' n p)).2
      unfold kas_tail3
      rw [askT_bind]
      have hq : PermN n (kas_rev p 0 m') := (mirror_perm _ _ _ _).trans hp
      have hm : m' ≤ p.size := by rw [I.size]; exact d4
      obtain ⟨a1, a2, a3, _⟩ := asc_up O (ixs_of hq) (n - m') m' (Nat.le_of_succ_le d3) (Nat.le_of_eq (Nat.add_sub_cancel' d4)) fun i hi => by
        rw [at_rev hm (Nat.lt_of_succ_lt hi), at_rev hm hi]
        obtain ⟨d, rfl⟩ := Nat.exists_eq_add_of_lt hi
        have e1 : i + 1 + d + 1 - 1 - (i + 1) = d := Nat.add_sub_cancel_left (i + 1) d
        have e2 : i + 1 + d + 1 - 1 - i = d + 1 := by rw [Nat.add_sub_cancel, Nat.add_assoc, Nat.add_sub_cancel_left, Nat.add_comm]
        rw [e1, e2]
        exact d2 d (by rw [Nat.add_comm (i + 1) d]; exact Nat.succ_lt_succ (Nat.lt_add_of_pos_right (Nat.succ_pos i)))
      rw [Nat.add_sub_cancel' d4] at a3
      exact ⟨a1, Nat.le_trans (Nat.le_of_succ_le d3) a2, a3, hq⟩
theorem place_at' {p : Array Nat} (I : Ixs n p) {k : Nat} (hk : k < n) (h : Up c p k) : ∀ (f l r : Nat), l ≤ r → r ≤ k → r ≤ l + f → (∀ i, i < l → c (at0 p i) (at0 p k) = true) → (∀ i, r ≤ i → i < k → c (at0 p k) (at0 p i) = true) →
    askT c (kas_place p k f l r) ≤ k ∧ (∀ i, i < askT c (kas_place p k f l r) → c (at0 p i) (at0 p k) = true) ∧ ∀ i, askT c (kas_place p k f l r) ≤ i → i < k → c (at0 p k) (at0 p i) = true := by
  intro f
  induction f with
  | zero =>
    intro l r h1 h2 h3 a b
    exact ⟨Nat.le_trans h1 h2, a, fun i hi => b i (Nat.le_trans h3 hi)⟩
  | succ f ih =>
    intro l r h1 h2 h3 a b
    unfold kas_place
    by_cases e : l ≥ r
    · rw [if_pos e]; exact ⟨Nat.le_trans h1 h2, a, fun i hi => b i (Nat.le_trans e hi)⟩
    · rw [if_neg e]
      have m1 : l ≤ (l + r) / 2 := (Nat.le_div_iff_mul_le Nat.zero_lt_two).mpr (by rw [Nat.mul_two]; exact Nat.add_le_add_left h1 l)
      have m2 : (l + r) / 2 < r := (Nat.div_lt_iff_lt_mul Nat.zero_lt_two).mpr (by rw [Nat.mul_two]; exact Nat.add_lt_add_right (Nat.lt_of_not_le e) r)
      generalize (l + r) / 2 = m at m1 m2
      have key : (askT c (if c (at0 p k) (at0 p m) = true then kas_place p k f l m else kas_place p k f (m + 1) r)) ≤ k ∧ (∀ i, i < askT c (if c (at0 p k) (at0 p m) = true then kas_place p k f l m else kas_place p k f (m + 1) r) → c (at0 p i) (at0 p k) = true) ∧ ∀ i, askT c (if c (at0 p k) (at0 p m) = true then kas_place p k f l m else kas_place p k f (m + 1) r) ≤ i → i < k → c (at0 p k) (at0 p i) = true := by
        cases q : c (at0 p k) (at0 p m) with
        | true =>
          rw [if_pos rfl]
          exact ih l m m1 (Nat.le_trans (Nat.le_of_lt m2) h2) (Nat.le_of_lt_succ (Nat.lt_of_lt_of_le m2 h3)) a fun i hi hik => by
            rcases Nat.eq_or_lt_of_le hi with z | z
            · rw [← z]; exact q
            · exact O.tr _ _ _ q (Up.lt O h z hik)
        | false =>
          rw [if_neg Bool.false_ne_true]
          have mk := Nat.lt_of_lt_of_le m2 h2
          have t := tot' O I hk (Nat.lt_trans mk hk) (Nat.ne_of_gt mk) q
          exact ih (m + 1) r m2 h2 (Nat.le_trans h3 (by rw [Nat.add_assoc m 1 f, Nat.add_comm 1 f]; exact Nat.add_le_add_right m1 _)) (fun i hi => by
            rcases Nat.eq_or_lt_of_le (Nat.le_of_lt_succ hi) with z | z
            · rw [z]; exact t
            · exact O.tr _ _ _ (Up.lt O h z mk) t) b
      exact key
theorem bin_up : ∀ (f : Nat) (p : Array Nat) (k : Nat), PermN n p → k + f = n → Up c p k → Up c (askT c (kas_bin f p k)) n ∧ PermN n (askT c (kas_bin f p k)) := by
  intro f
  induction f with
  | zero =>
    intro p k hp hk h
    exact ⟨by rw [← hk]; exact h, hp⟩
  | succ f ih =>
    intro p k hp hk h
    have I := ixs_of hp
    have hkn : k < n := hk ▸ Nat.lt_add_of_pos_right (Nat.succ_pos f)
    unfold kas_bin
    rw [askT_bind]
    obtain ⟨h1, h2, h3⟩ := place_at' O I hkn h k 0 k (Nat.zero_le _) (Nat.le_refl _) (Nat.le_of_eq (Nat.zero_add k).symm) (fun i hi => absurd hi (Nat.not_lt_zero i)) (fun i hi hj => absurd hj (Nat.not_lt_of_le hi))
    generalize askT c (kas_place p k k 0 k) = l at h1 h2 h3
    have hb := fun j => getElem?_bubble (xs := p) (src := k) (I.size.symm ▸ hkn) (k - l) (Nat.sub_le _ _) j
    have e : ∀ (q : Array Nat) (i : Nat), at0 q i = (q[i]?).getD 0 := fun q i => Array.getD_eq_getD_getElem?
    have el : k - (k - l) = l := Nat.sub_sub_self h1
    rw [el] at hb
    have b1 : at0 (bubble p k (k - l)) l = at0 p k := by rw [e, e, hb, if_pos rfl]
    have b2 : ∀ j, l < j → j ≤ k → at0 (bubble p k (k - l)) j = at0 p (j - 1) := fun j j1 j2 => by rw [e, e, hb, if_neg (Nat.ne_of_gt j1), if_pos ⟨j1, j2⟩]
    have b3 : ∀ j, j < l → at0 (bubble p k (k - l)) j = at0 p j := fun j j1 => by rw [e, e, hb, if_neg (Nat.ne_of_lt j1), if_neg fun z => Nat.lt_asymm j1 z.1]
    refine ih _ _ ((bubble_perm _ _ _).trans hp) (by rw [Nat.add_assoc, Nat.add_comm 1 f]; exact hk) fun i hi => ?_
    have hik := Nat.le_of_lt_succ hi
    rcases Nat.lt_trichotomy i l with q | q | q
    · rw [b3 i q]
      by_cases z : i + 1 = l
      · rw [z, b1]; exact h2 i q
      · have il := Nat.lt_of_le_of_ne q z
        rw [b3 (i + 1) il]; exact h i (Nat.lt_of_lt_of_le il h1)
    · subst q
      rw [b1, b2 (i + 1) (Nat.lt_succ_self i) hik]; exact h3 i (Nat.le_refl _) hik
    · obtain ⟨j, rfl⟩ := Nat.exists_eq_succ_of_ne_zero (Nat.ne_zero_of_lt q)
      rw [b2 (j + 1) q (Nat.le_of_succ_le hik), b2 (j + 1 + 1) (Nat.lt_succ_of_lt q) hik]
      exact h j hik
theorem sort_up (h0 : 0 < n) : Up c (askT c (kas_sort n)) n ∧ PermN n (askT c (kas_sort n)) := by
  unfold kas_sort
  rw [askT_bind]
  obtain ⟨k1, k2, k3, k4⟩ := count_up O (Array.Perm.refl (List.range n).toArray) h0
  generalize askT c (kas_count n (List.range n).toArray) = r at k1 k2 k3 k4
  by_cases e : r.1 < n
  · rw [if_pos e, Nat.max_eq_left k2]; exact bin_up O _ _ _ k4 (Nat.add_sub_cancel' k3) k1
  · rw [if_neg e]
    have : r.1 = n := Nat.le_antisymm k3 (Nat.le_of_not_lt e)
    rw [this] at k1
    exact ⟨k1, k4⟩
end
theorem pairLt_iff {a b : Int × Int} : pairLt a b = true ↔ a.1 < b.1 ∨ (a.1 = b.1 ∧ a.2 < b.2) := by
  unfold pairLt
  by_cases h : a.1 = b.1
  · rw [if_pos h]; exact ⟨fun q => .inr ⟨h, of_decide_eq_true q⟩, fun q => decide_eq_true (q.elim (fun z => absurd h (Int.ne_of_lt z)) (·.2))⟩
  · rw [if_neg h]; exact ⟨fun q => .inl (of_decide_eq_true q), fun q => decide_eq_true (q.elim id fun z => absurd z.1 h)⟩
theorem sortP_up {ps : List (Int × Int)} (hn : (ps.map (·.2)).Nodup) : (sortP ps).Pairwise fun a b => a.1 ≤ b.1 := by
  cases ps with
  | nil => exact List.Pairwise.nil
  | cons x r =>
    have hd : ∀ i j, i < (x :: r).length → j < (x :: r).length → i ≠ j → (pairAt (x :: r) i).2 ≠ (pairAt (x :: r) j).2 := fun i j hi hj hne e => by
      refine hne ((List.getElem?_inj (l := (x :: r).map (·.2)) (by rw [List.length_map]; exact hi) hn).mp ?_)
      have g : ∀ k, k < (x :: r).length → ((x :: r).map (·.2))[k]? = some (pairAt (x :: r) k).2 := fun k hk => by
        rw [List.getElem?_map, List.getElem?_eq_getElem hk]
        unfold pairAt
        rw [List.getD_eq_getElem?_getD, List.getElem?_eq_getElem hk]; rfl
      rw [g i hi, g j hj, e]
    have O : Ord (x :: r).length (fun i j => pairLt (pairAt (x :: r) i) (pairAt (x :: r) j)) := ⟨fun i j k h1 h2 => by
      rw [pairLt_iff] at h1 h2 ⊢
      rcases h1 with h1 | ⟨h1, h3⟩
      · exact .inl (h2.elim (Int.lt_trans h1) fun z => z.1 ▸ h1)
      · rw [h1]; exact h2.imp_right fun z => ⟨z.1, Int.lt_trans h3 z.2⟩, fun i j hi hj hne h => by
      have h : ¬ pairLt (pairAt (x :: r) i) (pairAt (x :: r) j) = true := by rw [h]; decide
      rw [pairLt_iff] at h ⊢
      rcases Int.lt_trichotomy (pairAt (x :: r) i).1 (pairAt (x :: r) j).1 with q | q | q
      · exact absurd (.inl q) h
      · exact .inr ⟨q.symm, (Int.lt_or_gt_of_ne (hd i j hi hj hne)).resolve_left fun z => h (.inr ⟨q, z⟩)⟩
      · exact .inl q⟩
    obtain ⟨h1, h2⟩ := sort_up O (Nat.succ_pos _)
    have I := ixs_of h2
    unfold sortP orderP
    rw [List.pairwise_map]
    generalize askT (fun i j => pairLt (pairAt (x :: r) i) (pairAt (x :: r) j)) (kas_sort (x :: r).length) = p at h1 I ⊢
    refine List.pairwise_iff_getElem.mpr fun i j hi hj hij => ?_
    have hs : ∀ k (hk : k < p.toList.length), p.toList[k] = at0 p k := fun k hk => by
      rw [Array.length_toList] at hk
      show p.toList[k] = p.getD k 0
      rw [Array.getD_eq_getD_getElem?, Array.getElem?_eq_getElem hk]; rfl
    rw [hs i hi, hs j hj]
    rw [Array.length_toList, I.size] at hj
    exact (pairLt_iff.mp (Up.lt O h1 hij hj)).elim Int.le_of_lt fun z => Int.le_of_eq z.1
end Lw
namespace Lw.L09
open PySem
noncomputable def f__law_whole : Fn := ⟨["_law_found"], [], [.ret (.bool true [(.isinst (.var 0) .int), (.not (.isinst (.var 0) .bool))])]⟩
noncomputable def f__law_cell_at : Fn := ⟨["_law_script", "_law_k"], [], [.ite (.cmp .lt (.var 1) (.bcall .len [(.var 0)])) [.ret (.idx (.var 0) (.var 1))] [],
  .ret (.cInt 0)]⟩
noncomputable def f__law_sign : Fn := ⟨["_law_cell"], [], [.assign 1 (.cStr " !\"#$&'()*+,-./0123456789:;<=>?@ABCDEFGHIJKLMNOPQRSTUVWXYZ[\\]^_`"),
  .assign 1 (.bin .add (.var 1) (.cStr "abcdefghijklmnopqrstuvwxyz{|}~")),
  .ret (.idx (.var 1) (.bin .mod (.var 0) (.cInt 94)))]⟩
noncomputable def f__law_text : Fn := ⟨["_law_cell", "_law_size"], [], [.ret (.bmeth .join (.cStr "") [(.comp false (.fcall "_law_sign" [(.bin .add (.var 0) (.bin .mul (.bin .mul (.cInt 7) (.var 2)) (.var 2)))]) 2 (.bcall .range [(.var 1)]) (.cBool true))])]⟩
noncomputable def f__law_pool : Fn := ⟨["_law_cell", "_law_other"], [], [.assign 2 (.fcall "_law_text" [(.var 0), (.idx (.list false [(.bin .add (.cInt 1) (.bin .mod (.var 0) (.cInt 4))), (.bin .add (.cInt 1) (.bin .mod (.var 0) (.cInt 18)))]) (.bin .mod (.bin .fdiv (.var 0) (.cInt 4)) (.cInt 2)))]),
  .assign 3 (.fcall "_law_sign" [(.var 1)]),
  .assign 4 (.fcall "_law_sign" [(.bin .fdiv (.var 1) (.cInt 94))]),
  .assign 5 (.bin .mod (.bin .fdiv (.var 1) (.cInt 8836)) (.bin .add (.bcall .len [(.var 2)]) (.cInt 1))),
  .ret (.list false [(.var 2), (.bin .add (.var 2) (.var 3)), (.bin .add (.bin .add (.slice false (.var 2) .cNone (.var 5)) (.var 4)) (.slice false (.var 2) (.var 5) .cNone)), (.var 3), (.bin .add (.var 4) (.var 2)), (.fcall "_law_text" [(.var 1), (.bin .sub (.cInt 20) (.bin .mod (.var 1) (.cInt 3)))])])]⟩
noncomputable def f__law_prefix : Fn := ⟨["_law_pool_here", "_law_cell"], [], [.ret (.idx (.list false [.cStr "", .cStr "", (.idx (.var 0) (.cInt 0)), (.idx (.var 0) (.cInt 3)), (.idx (.var 0) (.cInt 1)), (.slice false (.idx (.var 0) (.cInt 4)) .cNone (.cInt 1)), (.idx (.var 0) (.cInt 5))]) (.bin .mod (.var 1) (.cInt 7)))]⟩
noncomputable def f__law_only : Fn := ⟨["_law_error", "_law_word"], [], [.assign 2 (.list true []),
  .ite (.isinst (.var 0) (.own "BadTicks")) [.expr (.bmeth .append (.var 2) [.cStr "BadTicks"])] [],
  .ite (.isinst (.var 0) (.own "NoLease")) [.expr (.bmeth .append (.var 2) [.cStr "NoLease"])] [],
  .ite (.isinst (.var 0) (.own "NoKey")) [.expr (.bmeth .append (.var 2) [.cStr "NoKey"])] [],
  .ite (.isinst (.var 0) (.own "Held")) [.expr (.bmeth .append (.var 2) [.cStr "Held"])] [],
  .ite (.isinst (.var 0) (.own "NoStart")) [.expr (.bmeth .append (.var 2) [.cStr "NoStart"])] [],
  .ite (.isinst (.var 0) (.own "NoWatch")) [.expr (.bmeth .append (.var 2) [.cStr "NoWatch"])] [],
  .ret (.bool true [(.isinst (.var 0) .valueError), (.cmp .eq (.var 2) (.list false [(.var 1)]))])]⟩
noncomputable def f__law_call : Fn := ⟨["_law_room", "_law_deed_here"], [], [.ite (.cmp .eq (.idx (.var 1) (.cInt 0)) (.cStr "grant")) [.ret (.mcall (.var 0) "grant" [(.idx (.var 1) (.cInt 1))] [] [])] [],
  .ite (.cmp .eq (.idx (.var 1) (.cInt 0)) (.cStr "wait")) [.ret (.mcall (.var 0) "wait" [(.idx (.var 1) (.cInt 1))] [] [])] [],
  .ite (.cmp .eq (.idx (.var 1) (.cInt 0)) (.cStr "renew")) [.ret (.mcall (.var 0) "renew" [(.idx (.var 1) (.cInt 1))] [] [])] [],
  .ite (.cmp .eq (.idx (.var 1) (.cInt 0)) (.cStr "drop")) [.ret (.mcall (.var 0) "drop" [(.idx (.var 1) (.cInt 1))] [] [])] [],
  .ite (.bool true [(.cmp .eq (.idx (.var 1) (.cInt 0)) (.cStr "put")), (.cmp .eq (.idx (.var 1) (.cInt 3)) (.cInt 0))]) [.ret (.mcall (.var 0) "put" [(.idx (.var 1) (.cInt 1)), (.idx (.var 1) (.cInt 2))] [] [])] [],
  .ite (.bool true [(.cmp .eq (.idx (.var 1) (.cInt 0)) (.cStr "put")), (.cmp .eq (.bin .mod (.idx (.var 1) (.cInt 3)) (.cInt 2)) (.cInt 0))]) [.ret (.mcall (.var 0) "put" [(.idx (.var 1) (.cInt 1)), (.idx (.var 1) (.cInt 2))] ["lease"] [(.idx (.var 1) (.cInt 3))])] [],
  .ite (.cmp .eq (.idx (.var 1) (.cInt 0)) (.cStr "put")) [.ret (.mcall (.var 0) "put" [(.idx (.var 1) (.cInt 1)), (.idx (.var 1) (.cInt 2)), (.idx (.var 1) (.cInt 3))] [] [])] [],
  .ite (.cmp .eq (.bin .mod (.idx (.var 1) (.cInt 2)) (.cInt 2)) (.cInt 0)) [.ret (.mcall (.var 0) "cut" [(.idx (.var 1) (.cInt 1))] ["lease"] [(.idx (.var 1) (.cInt 2))])] [],
  .ret (.mcall (.var 0) "cut" [(.idx (.var 1) (.cInt 1)), (.idx (.var 1) (.cInt 2))] [] [])]⟩
noncomputable def f__law_done : Fn := ⟨["_law_room", "_law_deed_here"], [], [.tryx [.ret (.fcall "_law_call" [(.var 0), (.var 1)])] "LeaseError" 2 [.for1 3 (.list false [.cStr "BadTicks", .cStr "NoLease", .cStr "NoKey", .cStr "Held"]) [.ite (.fcall "_law_only" [(.var 2), (.var 3)]) [.ret (.var 3)] []], .ret (.cStr "another refusal")]]⟩
noncomputable def f__law_ticks : Fn := ⟨["_law_cell", "_law_more"], [], [.ite (.cmp .eq (.bin .mod (.var 1) (.cInt 4)) (.cInt 0)) [.ret (.idx (.list false [.cInt 0, .cInt 1, .cInt 1000000, .cInt 1000001, (.neg (.cInt 1)), (.bin .pow (.cInt 10) (.cInt 9)), (.bin .pow (.cInt 10) (.cInt 30)), (.neg (.bin .pow (.cInt 10) (.cInt 9)))]) (.bin .mod (.var 0) (.cInt 8)))] [],
  .ite (.cmp .eq (.bin .mod (.var 1) (.cInt 4)) (.cInt 1)) [.ret (.bin .mod (.var 0) (.cInt 1000003))] [],
  .ret (.bin .add (.cInt 1) (.bin .mod (.var 0) (.cInt 6)))]⟩
noncomputable def f__law_deed : Fn := ⟨["_law_m", "_law_pool_here", "_law_kind", "_law_cell", "_law_more"], [], [.assign 5 (.bin .mod (.var 3) (.bin .add (.idx (.var 0) (.cStr "given")) (.cInt 2))),
  .ite (.cmp .eq (.bin .mod (.bin .fdiv (.var 4) (.cInt 7)) (.cInt 11)) (.cInt 0)) [.assign 5 (.idx (.list false [(.neg (.cInt 1)), (.neg (.cInt 2)), (.bin .pow (.cInt 10) (.cInt 12))]) (.bin .mod (.var 3) (.cInt 3)))] [],
  .ite (.cmp .lt (.bin .mod (.var 2) (.cInt 12)) (.cInt 2)) [.ret (.tup [.cStr "grant", (.fcall "_law_ticks" [(.var 3), (.var 4)])])] [],
  .ite (.cmp .eq (.bin .mod (.var 2) (.cInt 12)) (.cInt 2)) [.ret (.tup [.cStr "renew", (.var 5)])] [],
  .ite (.cmp .eq (.bin .mod (.var 2) (.cInt 12)) (.cInt 3)) [.ret (.tup [.cStr "drop", (.var 5)])] [],
  .ite (.cmp .lt (.bin .mod (.var 2) (.cInt 12)) (.cInt 6)) [.ret (.tup [.cStr "wait", (.bin .sub (.fcall "_law_ticks" [(.var 3), (.bin .add (.var 4) (.cInt 2))]) (.bin .mod (.var 4) (.cInt 2)))])] [],
  .assign 6 (.idx (.var 1) (.bin .mod (.var 4) (.cInt 6))),
  .ite (.cmp .lt (.bin .mod (.var 2) (.cInt 12)) (.cInt 10)) [.ret (.tup [.cStr "put", (.var 6), (.fcall "_law_text" [(.var 4), (.idx (.list false [(.bin .mod (.var 3) (.cInt 5)), (.bin .mod (.var 3) (.cInt 41))]) (.bin .fdiv (.bin .mod (.bin .fdiv (.var 4) (.cInt 6)) (.cInt 5)) (.cInt 4)))]), (.var 5)])] [],
  .ret (.tup [.cStr "cut", (.var 6), (.var 5)])]⟩
noncomputable def f__law_change : Fn := ⟨["_law_found"], [], [.ite (.bool false [(.not (.isinst (.var 0) .tuple)), (.cmp .ne (.bcall .len [(.var 0)]) (.cInt 5))]) [.ret (.cBool false)] [],
  .ite (.bool false [(.not (.fcall "_law_whole" [(.idx (.var 0) (.cInt 0))])), (.not (.fcall "_law_whole" [(.idx (.var 0) (.cInt 1))]))]) [.ret (.cBool false)] [],
  .ret (.bool true [(.isinst (.idx (.var 0) (.cInt 2)) .str), (.isinst (.idx (.var 0) (.cInt 3)) .str), (.isinst (.idx (.var 0) (.cInt 4)) .str)])]⟩
noncomputable def f__law_changes : Fn := ⟨["_law_found", "_law_due"], [], [.ite (.bool false [(.not (.isinst (.var 0) .list)), (.cmp .ne (.bcall .len [(.var 0)]) (.bcall .len [(.var 1)]))]) [.ret (.cBool false)] [],
  .for1 2 (.var 0) [.ite (.not (.fcall "_law_change" [(.var 2)])) [.ret (.cBool false)] []],
  .assign 3 (.cmp .eq (.var 0) (.var 1)),
  .expr (.bmeth .clear (.var 0) []),
  .ret (.var 3)]⟩
noncomputable def f__law_did : Fn := ⟨["_law_room", "_law_m", "_law_deed_here"], [], [.assign 3 (.fcall "_law_done" [(.var 0), (.var 2)]),
  .ite (.bool true [(.cmp .eq (.idx (.var 2) (.cInt 0)) (.cStr "grant")), (.fcall "_law_whole" [(.var 3)])]) [.setidx (.var 1) (.cStr "given") (.var 3)] [],
  .ite (.bool true [(.cmp .eq (.idx (.var 2) (.cInt 0)) (.cStr "wait")), (.isNone (.var 3))]) [.setidx (.var 1) (.cStr "now") (.bin .add (.idx (.var 1) (.cStr "now")) (.idx (.var 2) (.cInt 1)))] [],
  .ite (.bool true [(.cmp .eq (.idx (.var 2) (.cInt 0)) (.cStr "put")), (.fcall "_law_whole" [(.var 3)])]) [.setidx (.idx (.var 1) (.cStr "mine")) (.var 3) (.tup [(.var 3), (.idx (.var 1) (.cStr "now")), .cStr "put", (.idx (.var 2) (.cInt 1)), (.idx (.var 2) (.cInt 2))])] [],
  .ite (.bool true [(.cmp .eq (.idx (.var 2) (.cInt 0)) (.cStr "cut")), (.fcall "_law_whole" [(.var 3)])]) [.setidx (.idx (.var 1) (.cStr "mine")) (.var 3) (.tup [(.var 3), (.idx (.var 1) (.cStr "now")), .cStr "cut", (.idx (.var 2) (.cInt 1)), .cStr ""])] []]⟩
noncomputable def f__law_key : Fn := ⟨["_law_cell", "_law_k"], [], [.ite (.cmp .eq (.bin .mod (.var 0) (.cInt 2)) (.cInt 0)) [.ret (.bin .add (.fcall "_law_sign" [(.bin .add (.var 0) (.var 1))]) (.fcall "_law_text" [(.var 0), (.bin .mod (.var 1) (.cInt 17))]))] [],
  .assign 2 (.fcall "_law_text" [(.var 0), (.bin .mod (.bin .fdiv (.var 0) (.cInt 2)) (.cInt 18))]),
  .assign 3 (.bin .mod (.bin .fdiv (.var 0) (.cInt 36)) (.bin .add (.bcall .len [(.var 2)]) (.cInt 1))),
  .ret (.bin .add (.bin .add (.slice false (.var 2) .cNone (.var 3)) (.fcall "_law_sign" [(.bin .add (.var 0) (.var 1))])) (.slice false (.var 2) (.var 3) .cNone))]⟩
noncomputable def f__law_crowd : Fn := ⟨["_law_room", "_law_m", "_law_cell"], [], [.assign 3 (.bin .add (.idx (.var 1) (.cStr "given")) (.cInt 1)),
  .expr (.fcall "_law_did" [(.var 0), (.var 1), (.tup [.cStr "grant", (.bin .add (.cInt 1) (.bin .mod (.var 2) (.cInt 9)))])]),
  .for1 4 (.bcall .range [.cInt 40]) [.expr (.fcall "_law_did" [(.var 0), (.var 1), (.tup [.cStr "put", (.fcall "_law_key" [(.var 2), (.var 4)]), (.fcall "_law_text" [(.var 4), (.bin .mod (.var 4) (.cInt 3))]), (.idx (.list false [(.var 3), .cInt 0]) (.bin .fdiv (.bin .mod (.var 4) (.cInt 5)) (.cInt 4)))])])]]⟩
noncomputable def f__law_all : Fn := ⟨["_law_rows", "_law_m"], [], [.assign 2 (.cInt 0),
  .assign 3 (.cInt 0),
  .assign 4 (.dict0 true),
  .for1 5 (.var 0) [.ite (.bool false [(.not (.fcall "_law_change" [(.var 5)])), (.cmp .ne (.idx (.var 5) (.cInt 0)) (.bin .add (.var 2) (.cInt 1))), (.not (.chain (.var 3) (.idx (.var 5) (.cInt 1)) (.idx (.var 1) (.cStr "now"))))]) [.ret (.cBool false)] [], .assign 2 (.idx (.var 5) (.cInt 0)), .assign 3 (.idx (.var 5) (.cInt 1)), .ite (.cmp .isin (.var 2) (.idx (.var 1) (.cStr "mine"))) [.ite (.cmp .ne (.var 5) (.idx (.idx (.var 1) (.cStr "mine")) (.var 2))) [.ret (.cBool false)] []] [.ite (.bool false [(.cmp .ne (.idx (.var 5) (.cInt 2)) (.cStr "cut")), (.cmp .ne (.idx (.var 5) (.cInt 4)) (.cStr ""))]) [.ret (.cBool false)] []], .ite (.bool true [(.cmp .eq (.idx (.var 5) (.cInt 2)) (.cStr "cut")), (.cmp .notin (.idx (.var 5) (.cInt 3)) (.var 4))]) [.ret (.cBool false)] [], .setidx (.var 4) (.idx (.var 5) (.cInt 3)) (.cBool true), .ite (.cmp .eq (.idx (.var 5) (.cInt 2)) (.cStr "cut")) [.expr (.bmeth .pop (.var 4) [(.idx (.var 5) (.cInt 3))])] []],
  .for1 6 (.idx (.var 1) (.cStr "mine")) [.ite (.cmp .gt (.var 6) (.var 2)) [.ret (.cBool false)] []],
  .ret (.cBool true)]⟩
noncomputable def f__law_turned : Fn := ⟨["_law_line", "_law_most", "_law_luck"], [], [.assign 3 (.bcall .list [(.mcall (.attr (.var 0) "ear") "heard" [] [] [])]),
  .assign 4 (.mcall (.var 0) "turn" [(.var 1), (.var 2)] [] []),
  .assign 5 (.mcall (.attr (.var 0) "ear") "heard" [] [] []),
  .ite (.bool false [(.not (.fcall "_law_whole" [(.var 4)])), (.not (.chain (.cInt 0) (.var 4) (.var 1))), (.not (.isinst (.var 5) .list))]) [.ret (.cBool false)] [],
  .ite (.bool false [(.cmp .ne (.bcall .len [(.var 5)]) (.bin .add (.bcall .len [(.var 3)]) (.var 4))), (.cmp .ne (.slice false (.var 5) .cNone (.bcall .len [(.var 3)])) (.var 3))]) [.ret (.cBool false)] [],
  .forZ 6 7 (.var 5) (.slice false (.var 5) (.cInt 1) .cNone) [.ite (.bool false [(.not (.fcall "_law_change" [(.var 7)])), (.cmp .ge (.idx (.var 6) (.cInt 0)) (.idx (.var 7) (.cInt 0)))]) [.ret (.cBool false)] []],
  .ret (.cBool true)]⟩
noncomputable def f__law_step : Fn := ⟨["_law_room", "_law_m", "_law_lines", "_law_pool_here", "_law_cells"], [], [.ite (.cmp .eq (.bin .mod (.idx (.var 4) (.cInt 0)) (.cInt 3)) (.cInt 0)) [.expr (.fcall "_law_did" [(.var 0), (.var 1), (.fcall "_law_deed" [(.var 1), (.var 3), (.bin .fdiv (.idx (.var 4) (.cInt 0)) (.cInt 3)), (.idx (.var 4) (.cInt 1)), (.idx (.var 4) (.cInt 2))])]), .ret (.cBool true)] [],
  .ite (.bool true [(.cmp .eq (.bin .mod (.idx (.var 4) (.cInt 0)) (.cInt 3)) (.cInt 1)), (.cmp .lt (.bcall .len [(.var 2)]) (.cInt 5)), (.cmp .eq (.bin .mod (.bin .fdiv (.idx (.var 4) (.cInt 0)) (.cInt 3)) (.cInt 3)) (.cInt 0))]) [.assign 5 (.fcall "_law_prefix" [(.var 3), (.idx (.var 4) (.cInt 2))]), .assign 6 (.bin .add (.mcall (.var 0) "first" [] [] []) (.bin .mod (.idx (.var 4) (.cInt 1)) (.bin .sub (.bin .add (.mcall (.var 0) "last" [] [] []) (.cInt 2)) (.mcall (.var 0) "first" [] [] [])))), .expr (.bmeth .append (.var 2) [(.tup [(.new "Line" [(.var 0), (.var 5), (.var 6)] [] []), (.var 5), (.var 6)])]), .assign 7 (.attr (.idx (.idx (.var 2) (.neg (.cInt 1))) (.cInt 0)) "watcher"), .ret (.bool true [(.fcall "_law_whole" [(.var 7)]), (.cmp .eq (.var 7) (.bcall .len [(.var 2)]))])] [],
  .ite (.cmp .eq (.bin .mod (.bin .fdiv (.idx (.var 4) (.cInt 0)) (.cInt 3)) (.cInt 7)) (.cInt 6)) [.ret (.fcall "_law_whole" [(.mcall (.var 0) "trim" [] [] [])])] [],
  .assign 8 (.idx (.list false [(.bin .mod (.bin .fdiv (.idx (.var 4) (.cInt 2)) (.cInt 4)) (.cInt 5)), (.bin .mod (.bin .fdiv (.idx (.var 4) (.cInt 2)) (.cInt 4)) (.cInt 97))]) (.bin .mod (.bin .fdiv (.idx (.var 4) (.cInt 0)) (.cInt 63)) (.cInt 2))),
  .ret (.fcall "_law_turned" [(.idx (.idx (.var 2) (.bin .mod (.idx (.var 4) (.cInt 1)) (.bcall .len [(.var 2)]))) (.cInt 0)), (.var 8), (.bin .mod (.idx (.var 4) (.cInt 2)) (.cInt 4))])]⟩
noncomputable def f_law : Fn := ⟨["_law_script"], [], [.assign 1 (.new "Room" [] [] []),
  .assign 2 (.dict ["given", "now", "mine"] [.cInt 0, .cInt 0, (.dict0 false)]),
  .assign 3 (.list true [(.tup [(.new "Line" [(.var 1), .cStr "", .cInt 1] [] []), .cStr "", .cInt 1])]),
  .assign 4 (.fcall "_law_pool" [(.fcall "_law_cell_at" [(.var 0), .cInt 0]), (.fcall "_law_cell_at" [(.var 0), .cInt 1])]),
  .ite (.cmp .eq (.bin .mod (.fcall "_law_cell_at" [(.var 0), .cInt 1]) (.cInt 3)) (.cInt 0)) [.expr (.fcall "_law_crowd" [(.var 1), (.var 2), (.fcall "_law_cell_at" [(.var 0), .cInt 0])])] [],
  .for1 5 (.bcall .range [.cInt 2, (.bin .sub (.bcall .len [(.var 0)]) (.cInt 2)), .cInt 3]) [.ite (.not (.fcall "_law_step" [(.var 1), (.var 2), (.var 3), (.var 4), (.slice false (.var 0) (.var 5) (.bin .add (.var 5) (.cInt 3)))])) [.ret (.cBool false)] []],
  .for1 6 (.var 3) [.ite (.not (.fcall "_law_turned" [(.idx (.var 6) (.cInt 0)), (.bin .add (.cInt 9) (.bin .mul (.cInt 8) (.bcall .len [(.idx (.var 2) (.cStr "mine"))]))), .cInt 0])) [.ret (.cBool false)] []],
  .assign 7 (.mcall (.attr (.idx (.idx (.var 3) (.cInt 0)) (.cInt 0)) "ear") "heard" [] [] []),
  .ite (.not (.fcall "_law_all" [(.var 7), (.var 2)])) [.ret (.cBool false)] [],
  .for1 6 (.var 3) [.assign 8 (.comp false (.var 9) 9 (.var 7) (.bool true [(.cmp .ge (.idx (.var 9) (.cInt 0)) (.idx (.var 6) (.cInt 2))), (.cmp .eq (.slice false (.idx (.var 9) (.cInt 3)) .cNone (.bcall .len [(.idx (.var 6) (.cInt 1))])) (.idx (.var 6) (.cInt 1)))])), .ite (.not (.fcall "_law_changes" [(.mcall (.attr (.idx (.var 6) (.cInt 0)) "ear") "heard" [] [] []), (.var 8)])) [.ret (.cBool false)] []],
  .ret (.cBool true)]⟩
noncomputable def f_Ear___init__ : Fn := ⟨["self", "start", "pairs"], [.int 1, .none], [.setattr (.var 0) "taken" (.bin .sub (.var 1) (.cInt 1)),
  .setattr (.var 0) "rows" (.list true []),
  .setattr (.var 0) "standing" (.dict0 true),
  .ite (.notNone (.var 2)) [.for1 3 (.var 2) [.setidx (.attr (.var 0) "standing") (.idx (.var 3) (.cInt 0)) (.idx (.var 3) (.cInt 1))]] []]⟩
noncomputable def f_Ear_hear : Fn := ⟨["self", "changes"], [], [.for1 2 (.var 1) [.ite (.cmp .gt (.idx (.var 2) (.cInt 0)) (.attr (.var 0) "taken")) [.expr (.bmeth .append (.attr (.var 0) "rows") [(.var 2)]), .setattr (.var 0) "taken" (.idx (.var 2) (.cInt 0)), .ite (.cmp .eq (.idx (.var 2) (.cInt 2)) (.cStr "put")) [.setidx (.attr (.var 0) "standing") (.idx (.var 2) (.cInt 3)) (.idx (.var 2) (.cInt 4))] [.ite (.cmp .isin (.idx (.var 2) (.cInt 3)) (.attr (.var 0) "standing")) [.expr (.bmeth .pop (.attr (.var 0) "standing") [(.idx (.var 2) (.cInt 3))])] []]] []],
  .ret (.attr (.var 0) "taken")]⟩
noncomputable def f_Ear_heard : Fn := ⟨["self"], [], [.ret (.bcall .list [(.attr (.var 0) "rows")])]⟩
noncomputable def f_Line___init__ : Fn := ⟨["self", "room", "prefix", "start", "pairs"], [.none], [.setattr (.var 0) "room" (.var 1),
  .setattr (.var 0) "watcher" (.mcall (.var 1) "watch" [(.var 2), (.var 3)] [] []),
  .setattr (.var 0) "ear" (.new "Ear" [(.var 3), (.var 4)] [] [])]⟩
noncomputable def f_Line_turn : Fn := ⟨["self", "most", "luck"], [], [.assign 3 (.bcall .len [(.mcall (.attr (.var 0) "ear") "heard" [] [] [])]),
  .assign 4 (.mcall (.attr (.var 0) "room") "pull" [(.attr (.var 0) "watcher"), (.var 1)] [] []),
  .ite (.bool false [(.cmp .eq (.var 2) (.cInt 0)), (.cmp .eq (.var 2) (.cInt 2))]) [.expr (.mcall (.attr (.var 0) "ear") "hear" [(.var 4)] [] [])] [],
  .ite (.cmp .eq (.var 2) (.cInt 3)) [.expr (.mcall (.attr (.var 0) "ear") "hear" [(.slice false (.var 4) .cNone (.bin .fdiv (.bcall .len [(.var 4)]) (.cInt 2)))] [] [])] [],
  .ite (.cmp .eq (.var 2) (.cInt 0)) [.expr (.mcall (.attr (.var 0) "room") "confirm" [(.attr (.var 0) "watcher")] [] [])] [.expr (.mcall (.attr (.var 0) "room") "broken" [(.attr (.var 0) "watcher")] [] [])],
  .ret (.bin .sub (.bcall .len [(.mcall (.attr (.var 0) "ear") "heard" [] [] [])]) (.var 3))]⟩
noncomputable def f_Leases___init__ : Fn := ⟨["self"], [], [.setattr (.var 0) "given" (.cInt 0),
  .setattr (.var 0) "ends" (.dict0 false),
  .setattr (.var 0) "lengths" (.dict0 false)]⟩
noncomputable def f_Leases_grant : Fn := ⟨["self", "now", "ticks"], [], [.ite (.bool false [(.cmp .lt (.var 2) (.cInt 1)), (.cmp .gt (.var 2) (.gint "MOST_TICKS" 1000000))]) [.raise "BadTicks" "a lease is given for 1 to 1000000 ticks"] [],
  .setattr (.var 0) "given" (.bin .add (.attr (.var 0) "given") (.cInt 1)),
  .setidx (.attr (.var 0) "ends") (.attr (.var 0) "given") (.bin .add (.var 1) (.var 2)),
  .setidx (.attr (.var 0) "lengths") (.attr (.var 0) "given") (.var 2),
  .ret (.attr (.var 0) "given")]⟩
noncomputable def f_Leases_need : Fn := ⟨["self", "lease"], [], [.ite (.cmp .notin (.var 1) (.attr (.var 0) "ends")) [.raise "NoLease" "no such lease runs"] []]⟩
noncomputable def f_Leases_renew : Fn := ⟨["self", "now", "lease"], [], [.expr (.mcall (.var 0) "need" [(.var 2)] [] []),
  .setidx (.attr (.var 0) "ends") (.var 2) (.bin .add (.var 1) (.idx (.attr (.var 0) "lengths") (.var 2)))]⟩
noncomputable def f_Leases_drop : Fn := ⟨["self", "lease"], [], [.expr (.mcall (.var 0) "need" [(.var 1)] [] []),
  .expr (.bmeth .pop (.attr (.var 0) "ends") [(.var 1)]),
  .expr (.bmeth .pop (.attr (.var 0) "lengths") [(.var 1)])]⟩
noncomputable def f_Leases_due : Fn := ⟨["self", "until"], [], [.assign 2 (.list true []),
  .for1 3 (.attr (.var 0) "ends") [.ite (.cmp .le (.idx (.attr (.var 0) "ends") (.var 3)) (.var 1)) [.expr (.bmeth .append (.var 2) [(.tup [(.idx (.attr (.var 0) "ends") (.var 3)), (.var 3)])])] []],
  .ret (.bcall (.sorted true false) [(.var 2)])]⟩
noncomputable def f_Log___init__ : Fn := ⟨["self"], [], [.setattr (.var 0) "gone" (.cInt 0),
  .setattr (.var 0) "rows" (.list true [])]⟩
noncomputable def f_Log_last : Fn := ⟨["self"], [], [.ret (.bin .add (.attr (.var 0) "gone") (.bcall .len [(.attr (.var 0) "rows")]))]⟩
noncomputable def f_Log_first : Fn := ⟨["self"], [], [.ret (.bin .add (.attr (.var 0) "gone") (.cInt 1))]⟩
noncomputable def f_Log_note : Fn := ⟨["self", "tick", "word", "key", "value"], [], [.assign 5 (.bin .add (.mcall (.var 0) "last" [] [] []) (.cInt 1)),
  .expr (.bmeth .append (.attr (.var 0) "rows") [(.tup [(.var 5), (.var 1), (.var 2), (.var 3), (.var 4)])]),
  .ret (.var 5)]⟩
noncomputable def f_Log_wanted : Fn := ⟨["self", "prefix", "behind", "most"], [], [.assign 4 (.list true []),
  .for1 5 (.attr (.var 0) "rows") [.ite (.cmp .ge (.bcall .len [(.var 4)]) (.var 3)) [.ret (.var 4)] [], .ite (.bool true [(.cmp .gt (.idx (.var 5) (.cInt 0)) (.var 2)), (.bmeth .startswith (.idx (.var 5) (.cInt 3)) [(.var 1)])]) [.expr (.bmeth .append (.var 4) [(.var 5)])] []],
  .ret (.var 4)]⟩
noncomputable def f_Log_forget : Fn := ⟨["self", "upto"], [], [.assign 2 (.bin .sub (.bcall .min [(.var 1), (.mcall (.var 0) "last" [] [] [])]) (.attr (.var 0) "gone")),
  .ite (.cmp .le (.var 2) (.cInt 0)) [.ret (.cInt 0)] [],
  .setattr (.var 0) "rows" (.slice true (.attr (.var 0) "rows") (.var 2) .cNone),
  .setattr (.var 0) "gone" (.bin .add (.attr (.var 0) "gone") (.var 2)),
  .ret (.var 2)]⟩
noncomputable def f_Watcher___init__ : Fn := ⟨["self", "prefix", "start"], [], [.setattr (.var 0) "prefix" (.var 1),
  .setattr (.var 0) "told" (.bin .sub (.var 2) (.cInt 1)),
  .setattr (.var 0) "had" (.bin .sub (.var 2) (.cInt 1))]⟩
noncomputable def f_Room___init__ : Fn := ⟨["self"], [], [.setattr (.var 0) "now" (.cInt 0),
  .setattr (.var 0) "leases" (.new "Leases" [] [] []),
  .setattr (.var 0) "log" (.new "Log" [] [] []),
  .setattr (.var 0) "kept" (.dict0 true),
  .setattr (.var 0) "holders" (.dict0 true),
  .setattr (.var 0) "watching" (.cInt 0),
  .setattr (.var 0) "watchers" (.dict0 false)]⟩
noncomputable def f_Room_grant : Fn := ⟨["self", "ticks"], [], [.ret (.mcall (.attr (.var 0) "leases") "grant" [(.attr (.var 0) "now"), (.var 1)] [] [])]⟩
noncomputable def f_Room_renew : Fn := ⟨["self", "lease"], [], [.expr (.mcall (.attr (.var 0) "leases") "renew" [(.attr (.var 0) "now"), (.var 1)] [] [])]⟩
noncomputable def f_Room_drop : Fn := ⟨["self", "lease"], [], [.expr (.mcall (.attr (.var 0) "leases") "drop" [(.var 1)] [] []),
  .expr (.mcall (.var 0) "freed" [(.var 1), (.attr (.var 0) "now")] [] [])]⟩
noncomputable def f_Room_freed : Fn := ⟨["self", "lease", "tick"], [], [.for1 3 (.bcall (.sorted false false) [(.comp false (.var 4) 4 (.attr (.var 0) "kept") (.cmp .eq (.idx (.attr (.var 0) "holders") (.var 4)) (.var 1)))]) [.expr (.mcall (.var 0) "taken_out" [(.var 3), (.var 2)] [] [])]]⟩
noncomputable def f_Room_taken_out : Fn := ⟨["self", "key", "tick"], [], [.expr (.bmeth .pop (.attr (.var 0) "kept") [(.var 1)]),
  .expr (.bmeth .pop (.attr (.var 0) "holders") [(.var 1)]),
  .ret (.mcall (.attr (.var 0) "log") "note" [(.var 2), .cStr "cut", (.var 1), .cStr ""] [] [])]⟩
noncomputable def f_Room_wait : Fn := ⟨["self", "ticks"], [], [.ite (.bool false [(.cmp .lt (.var 1) (.cInt 0)), (.cmp .gt (.var 1) (.gint "MOST_TICKS" 1000000))]) [.raise "BadTicks" "a room waits 0 to 1000000 ticks"] [],
  .assign 2 (.bin .add (.attr (.var 0) "now") (.var 1)),
  .for1 3 (.mcall (.attr (.var 0) "leases") "due" [(.var 2)] [] []) [.expr (.mcall (.attr (.var 0) "leases") "drop" [(.idx (.var 3) (.cInt 1))] [] []), .expr (.mcall (.var 0) "freed" [(.idx (.var 3) (.cInt 1)), (.idx (.var 3) (.cInt 0))] [] [])],
  .setattr (.var 0) "now" (.var 2)]⟩
noncomputable def f_Room_need_free : Fn := ⟨["self", "key", "lease"], [], [.ite (.bool true [(.cmp .isin (.var 1) (.attr (.var 0) "kept")), (.cmp .ne (.idx (.attr (.var 0) "holders") (.var 1)) (.cInt 0)), (.cmp .ne (.idx (.attr (.var 0) "holders") (.var 1)) (.var 2))]) [.raise "Held" "another lease holds the key"] []]⟩
noncomputable def f_Room_put : Fn := ⟨["self", "key", "value", "lease"], [.int 0], [.ite (.cmp .ne (.var 3) (.cInt 0)) [.expr (.mcall (.attr (.var 0) "leases") "need" [(.var 3)] [] [])] [],
  .expr (.mcall (.var 0) "need_free" [(.var 1), (.var 3)] [] []),
  .setidx (.attr (.var 0) "kept") (.var 1) (.var 2),
  .setidx (.attr (.var 0) "holders") (.var 1) (.var 3),
  .ret (.mcall (.attr (.var 0) "log") "note" [(.attr (.var 0) "now"), .cStr "put", (.var 1), (.var 2)] [] [])]⟩
noncomputable def f_Room_cut : Fn := ⟨["self", "key", "lease"], [.int 0], [.ite (.cmp .ne (.var 2) (.cInt 0)) [.expr (.mcall (.attr (.var 0) "leases") "need" [(.var 2)] [] [])] [],
  .ite (.cmp .notin (.var 1) (.attr (.var 0) "kept")) [.raise "NoKey" "no such key"] [],
  .expr (.mcall (.var 0) "need_free" [(.var 1), (.var 2)] [] []),
  .ret (.mcall (.var 0) "taken_out" [(.var 1), (.attr (.var 0) "now")] [] [])]⟩
noncomputable def f_Room_last : Fn := ⟨["self"], [], [.ret (.mcall (.attr (.var 0) "log") "last" [] [] [])]⟩
noncomputable def f_Room_first : Fn := ⟨["self"], [], [.ret (.mcall (.attr (.var 0) "log") "first" [] [] [])]⟩
noncomputable def f_Room_watch : Fn := ⟨["self", "prefix", "start"], [], [.ite (.bool false [(.cmp .lt (.var 2) (.mcall (.var 0) "first" [] [] [])), (.cmp .gt (.var 2) (.bin .add (.mcall (.var 0) "last" [] [] []) (.cInt 1)))]) [.raise "NoStart" "that start is not kept"] [],
  .setattr (.var 0) "watching" (.bin .add (.attr (.var 0) "watching") (.cInt 1)),
  .setidx (.attr (.var 0) "watchers") (.attr (.var 0) "watching") (.new "Watcher" [(.var 1), (.var 2)] [] []),
  .ret (.attr (.var 0) "watching")]⟩
noncomputable def f_Room_need_watcher : Fn := ⟨["self", "number"], [], [.ite (.cmp .notin (.var 1) (.attr (.var 0) "watchers")) [.raise "NoWatch" "no such watcher"] [],
  .ret (.idx (.attr (.var 0) "watchers") (.var 1))]⟩
noncomputable def f_Room_pull : Fn := ⟨["self", "watcher", "most"], [], [.assign 3 (.mcall (.var 0) "need_watcher" [(.var 1)] [] []),
  .assign 4 (.mcall (.attr (.var 0) "log") "wanted" [(.attr (.var 3) "prefix"), (.attr (.var 3) "told"), (.var 2)] [] []),
  .ite (.cmp .lt (.bcall .len [(.var 4)]) (.var 2)) [.setattr (.var 3) "told" (.mcall (.var 0) "last" [] [] [])] [.ite (.cmp .gt (.bcall .len [(.var 4)]) (.cInt 0)) [.setattr (.var 3) "told" (.idx (.idx (.var 4) (.neg (.cInt 1))) (.cInt 0))] []],
  .ret (.var 4)]⟩
noncomputable def f_Room_confirm : Fn := ⟨["self", "watcher"], [], [.assign 2 (.mcall (.var 0) "need_watcher" [(.var 1)] [] []),
  .setattr (.var 2) "had" (.attr (.var 2) "told")]⟩
noncomputable def f_Room_broken : Fn := ⟨["self", "watcher"], [], [.assign 2 (.mcall (.var 0) "need_watcher" [(.var 1)] [] []),
  .setattr (.var 2) "told" (.attr (.var 2) "had")]⟩
noncomputable def f_Room_trim : Fn := ⟨["self"], [], [.assign 1 (.mcall (.var 0) "last" [] [] []),
  .for1 2 (.attr (.var 0) "watchers") [.assign 1 (.bcall .min [(.var 1), (.attr (.idx (.attr (.var 0) "watchers") (.var 2)) "had")])],
  .ret (.mcall (.attr (.var 0) "log") "forget" [(.var 1)] [] [])]⟩
noncomputable def tbl : List Ent := [⟨"", "_law_whole", f__law_whole, [("_law_found", 0)]⟩,
  ⟨"", "_law_cell_at", f__law_cell_at, [("_law_script", 0), ("_law_k", 1)]⟩,
  ⟨"", "_law_sign", f__law_sign, [("_law_cell", 0), ("_law_some", 1)]⟩,
  ⟨"", "_law_text", f__law_text, [("_law_cell", 0), ("_law_size", 1)]⟩,
  ⟨"", "_law_pool", f__law_pool, [("_law_cell", 0), ("_law_other", 1), ("_law_first", 2), ("_law_one", 3), ("_law_two", 4), ("_law_at", 5)]⟩,
  ⟨"", "_law_prefix", f__law_prefix, [("_law_pool_here", 0), ("_law_cell", 1)]⟩,
  ⟨"", "_law_only", f__law_only, [("_law_error", 0), ("_law_word", 1), ("_law_words", 2)]⟩,
  ⟨"", "_law_call", f__law_call, [("_law_room", 0), ("_law_deed_here", 1)]⟩,
  ⟨"", "_law_done", f__law_done, [("_law_room", 0), ("_law_deed_here", 1), ("_law_error", 2), ("_law_word", 3)]⟩,
  ⟨"", "_law_ticks", f__law_ticks, [("_law_cell", 0), ("_law_more", 1)]⟩,
  ⟨"", "_law_deed", f__law_deed, [("_law_m", 0), ("_law_pool_here", 1), ("_law_kind", 2), ("_law_cell", 3), ("_law_more", 4), ("_law_hand", 5), ("_law_key_here", 6)]⟩,
  ⟨"", "_law_change", f__law_change, [("_law_found", 0)]⟩,
  ⟨"", "_law_changes", f__law_changes, [("_law_found", 0), ("_law_due", 1), ("_law_one", 2), ("_law_good", 3)]⟩,
  ⟨"", "_law_did", f__law_did, [("_law_room", 0), ("_law_m", 1), ("_law_deed_here", 2), ("_law_found", 3)]⟩,
  ⟨"", "_law_key", f__law_key, [("_law_cell", 0), ("_law_k", 1), ("_law_rest", 2), ("_law_at", 3)]⟩,
  ⟨"", "_law_crowd", f__law_crowd, [("_law_room", 0), ("_law_m", 1), ("_law_cell", 2), ("_law_hand", 3), ("_law_k", 4)]⟩,
  ⟨"", "_law_all", f__law_all, [("_law_rows", 0), ("_law_m", 1), ("_law_number", 2), ("_law_tick", 3), ("_law_stands", 4), ("_law_row", 5), ("_law_one", 6)]⟩,
  ⟨"", "_law_turned", f__law_turned, [("_law_line", 0), ("_law_most", 1), ("_law_luck", 2), ("_law_before", 3), ("_law_found", 4), ("_law_after", 5), ("_law_one", 6), ("_law_other", 7)]⟩,
  ⟨"", "_law_step", f__law_step, [("_law_room", 0), ("_law_m", 1), ("_law_lines", 2), ("_law_pool_here", 3), ("_law_cells", 4), ("_law_prefix_here", 5), ("_law_start", 6), ("_law_number", 7), ("_law_most", 8)]⟩,
  ⟨"", "law", f_law, [("_law_script", 0), ("_law_room", 1), ("_law_m", 2), ("_law_lines", 3), ("_law_pool_here", 4), ("_law_k", 5), ("_law_one", 6), ("_law_rows", 7), ("_law_due", 8)]⟩,
  ⟨"Ear", "__init__", f_Ear___init__, [("self", 0), ("start", 1), ("pairs", 2), ("pair", 3)]⟩,
  ⟨"Ear", "hear", f_Ear_hear, [("self", 0), ("changes", 1), ("change", 2)]⟩,
  ⟨"Ear", "heard", f_Ear_heard, [("self", 0)]⟩,
  ⟨"Line", "__init__", f_Line___init__, [("self", 0), ("room", 1), ("prefix", 2), ("start", 3), ("pairs", 4)]⟩,
  ⟨"Line", "turn", f_Line_turn, [("self", 0), ("most", 1), ("luck", 2), ("ahead", 3), ("row", 4)]⟩,
  ⟨"Leases", "__init__", f_Leases___init__, [("self", 0)]⟩,
  ⟨"Leases", "grant", f_Leases_grant, [("self", 0), ("now", 1), ("ticks", 2)]⟩,
  ⟨"Leases", "need", f_Leases_need, [("self", 0), ("lease", 1)]⟩,
  ⟨"Leases", "renew", f_Leases_renew, [("self", 0), ("now", 1), ("lease", 2)]⟩,
  ⟨"Leases", "drop", f_Leases_drop, [("self", 0), ("lease", 1)]⟩,
  ⟨"Leases", "due", f_Leases_due, [("self", 0), ("until", 1), ("found", 2), ("lease", 3)]⟩,
  ⟨"Log", "__init__", f_Log___init__, [("self", 0)]⟩,
  ⟨"Log", "last", f_Log_last, [("self", 0)]⟩,
  ⟨"Log", "first", f_Log_first, [("self", 0)]⟩,
  ⟨"Log", "note", f_Log_note, [("self", 0), ("tick", 1), ("word", 2), ("key", 3), ("value", 4), ("number", 5)]⟩,
  ⟨"Log", "wanted", f_Log_wanted, [("self", 0), ("prefix", 1), ("behind", 2), ("most", 3), ("found", 4), ("row", 5)]⟩,
  ⟨"Log", "forget", f_Log_forget, [("self", 0), ("upto", 1), ("many", 2)]⟩,
  ⟨"Watcher", "__init__", f_Watcher___init__, [("self", 0), ("prefix", 1), ("start", 2)]⟩,
  ⟨"Room", "__init__", f_Room___init__, [("self", 0)]⟩,
  ⟨"Room", "grant", f_Room_grant, [("self", 0), ("ticks", 1)]⟩,
  ⟨"Room", "renew", f_Room_renew, [("self", 0), ("lease", 1)]⟩,
  ⟨"Room", "drop", f_Room_drop, [("self", 0), ("lease", 1)]⟩,
  ⟨"Room", "freed", f_Room_freed, [("self", 0), ("lease", 1), ("tick", 2), ("key", 3)]⟩,
  ⟨"Room", "taken_out", f_Room_taken_out, [("self", 0), ("key", 1), ("tick", 2)]⟩,
  ⟨"Room", "wait", f_Room_wait, [("self", 0), ("ticks", 1), ("until", 2), ("pair", 3)]⟩,
  ⟨"Room", "need_free", f_Room_need_free, [("self", 0), ("key", 1), ("lease", 2)]⟩,
  ⟨"Room", "put", f_Room_put, [("self", 0), ("key", 1), ("value", 2), ("lease", 3)]⟩,
  ⟨"Room", "cut", f_Room_cut, [("self", 0), ("key", 1), ("lease", 2)]⟩,
  ⟨"Room", "last", f_Room_last, [("self", 0)]⟩,
  ⟨"Room", "first", f_Room_first, [("self", 0)]⟩,
  ⟨"Room", "watch", f_Room_watch, [("self", 0), ("prefix", 1), ("start", 2)]⟩,
  ⟨"Room", "need_watcher", f_Room_need_watcher, [("self", 0), ("number", 1)]⟩,
  ⟨"Room", "pull", f_Room_pull, [("self", 0), ("watcher", 1), ("most", 2), ("one", 3), ("found", 4)]⟩,
  ⟨"Room", "confirm", f_Room_confirm, [("self", 0), ("watcher", 1), ("one", 2)]⟩,
  ⟨"Room", "broken", f_Room_broken, [("self", 0), ("watcher", 1), ("one", 2)]⟩,
  ⟨"Room", "trim", f_Room_trim, [("self", 0), ("upto", 1), ("number", 2)]⟩]
noncomputable def com : Com := ⟨["_law_whole", "_law_cell_at", "_law_sign", "_law_text", "_law_pool", "_law_prefix", "_law_only", "_law_call", "_law_done", "_law_ticks", "_law_deed", "_law_change", "_law_changes", "_law_did", "_law_key", "_law_crowd", "_law_all", "_law_turned", "_law_step", "law"], ["Ear", "Line", "Leases", "Log", "Watcher", "Room"], ["LeaseError", "BadTicks", "NoLease", "NoKey", "Held", "NoStart", "NoWatch"], ["ear", "ends", "given", "gone", "had", "holders", "kept", "leases", "lengths", "log", "now", "prefix", "room", "rows", "standing", "taken", "told", "watcher", "watchers", "watching"], ["ValueError", "bool", "int", "isinstance", "len", "list", "min", "range", "sorted", "sorted2", "str", "tuple", "zip"], [("MOST_TICKS", 1000000)]⟩
noncomputable def sub (x d : String) : Bool := (x == "LeaseError" && ["LeaseError"].contains d) || (x == "BadTicks" && ["BadTicks", "LeaseError"].contains d) || (x == "NoLease" && ["NoLease", "LeaseError"].contains d) || (x == "NoKey" && ["NoKey", "LeaseError"].contains d) || (x == "Held" && ["Held", "LeaseError"].contains d) || (x == "NoStart" && ["NoStart", "LeaseError"].contains d) || (x == "NoWatch" && ["NoWatch", "LeaseError"].contains d)
noncomputable def P : Prog := progOf tbl sub
end Lw.L09
namespace Lw.L09
open PySem
noncomputable abbrev Mh (n : Nat) : Mc := ⟨P, run P n, false, true⟩
noncomputable abbrev Mt (n : Nat) : Mc := ⟨P, run P n, false, false⟩
noncomputable abbrev Mq (n : Nat) : Mc := ⟨P, run P n, true, false⟩
variable {σ : St}
theorem whole_int {n : Nat} {hd : Bool} {i : Int} : run P (n + 1) hd "" "_law_whole" [.int i] [] σ = some (.ok (.bool true), σ) := by kernel_rfl
theorem whole_str {n : Nat} {hd : Bool} {s : Str} : run P (n + 1) hd "" "_law_whole" [.str s] [] σ = some (.ok (.bool false), σ) := by kernel_rfl
theorem whole_none {n : Nat} {hd : Bool} : run P (n + 1) hd "" "_law_whole" [.none] [] σ = some (.ok (.bool false), σ) := by kernel_rfl
theorem cell_at (n : Nat) (ns : List Int) (k : Nat) (hk : k < 1000) : ∃ i : Int, run P (n + 1) false "" "_law_cell_at" [.lst (ns.map .int), .int k] [] σ = some (.ok (.int i), σ) := by
  have hl : Ev (Mh n) (rhoOf [.lst (ns.map .int), .int k]) σ (.cmp .lt (.var 1) (.bcall .len [(.var 0)])) (.bool (decide ((k : Int) < (ns.map V.int).length))) σ := .cmp (.var rfl) (.bcall (.cons (.var rfl) .nil) rfl rfl) rfl
  by_cases h : (k : Int) < (ns.map V.int).length
  · rw [decide_eq_true h] at hl
    have h' : k < ns.length := by rw [List.length_map] at h; lia
    refine ⟨ns[k], call_at rfl rfl rfl (.iteT hl rfl (.ret (.idx (.var rfl) (.var rfl) ?_)))⟩
    show (place k (ns.map V.int).length).bind ((ns.map V.int)[·]?) = _
    rw [place_at (by lia) h (by lia)]
    show (ns.map V.int)[k]? = _
    rw [List.getElem?_map, List.getElem?_eq_getElem h']; rfl
  · rw [decide_eq_false h] at hl
    exact ⟨0, call_at rfl rfl rfl (.iteF hl rfl (.ret .cInt))⟩
theorem ints_all : ∀ (is : List Int), ∀ v ∈ is.map V.int, ∃ i : Int, v = .int i := fun is v hv => by
  obtain ⟨i, _, rfl⟩ := List.mem_map.mp hv; exact ⟨i, rfl⟩
theorem drawnI {vs : List V} {c k : Int} (hv : ∀ v ∈ vs, ∃ i : Int, v = .int i) (hk : 0 < k) (hk2 : k < 2 ^ 60) (hm : k ≤ vs.length) : ∃ i : Int, idxV σ (.lst vs) (.int (c % k)) = some (.int i) := by
  obtain ⟨x, hx, e⟩ := drawn (σ := σ) (vs := vs) (c := c) hk hk2 hm
  obtain ⟨i, rfl⟩ := hv x hx
  exact ⟨i, e⟩
theorem pow10 {M : Mc} {ρ : Rho} {k : Int} (h : 0 ≤ k ∧ k ≤ 40) : Ev M ρ σ (.bin .pow (.cInt 10) (.cInt k)) (.int (10 ^ k.toNat)) σ := .bin .cInt .cInt (if_pos ⟨rfl, h⟩)
theorem ticks_at (n : Nat) (c m : Int) : ∃ i : Int, run P (n + 1) false "" "_law_ticks" [.int c, .int m] [] σ = some (.ok (.int i), σ) := by
  have h4 : ∀ k : Int, Ev (Mh n) (rhoOf [.int c, .int m]) σ (.cmp .eq (.bin .mod (.var 1) (.cInt 4)) (.cInt k)) (.bool (m % 4 == k)) σ := fun k => .cmp (.mod (.var rfl) .cInt (by decide)) .cInt rfl
  cases h0 : m % 4 == 0 with
  | true =>
    obtain ⟨i, hi⟩ := drawnI (σ := σ) (vs := [0, 1, 1000000, 1000001, -1, 10 ^ 9, 10 ^ 30, -10 ^ 9].map V.int) (c := c) (k := 8) (ints_all _) (by decide) (by decide) (by decide)
    exact ⟨i, call_at rfl rfl rfl (.iteT (h0 ▸ h4 0) rfl (.ret (.idx (.list (.cons .cInt (.cons .cInt (.cons .cInt (.cons .cInt (.cons (.neg .cInt) (.cons (pow10 (by decide)) (.cons (pow10 (by decide)) (.cons (.neg (pow10 (by decide))) .nil)))))))) (by decide)) (.mod (.var rfl) .cInt (by decide)) hi)))⟩
  | false =>
    cases h1 : m % 4 == 1 with
    | true => exact ⟨_, call_at rfl rfl rfl (.iteF (h0 ▸ h4 0) rfl (.iteT (h1 ▸ h4 1) rfl (.ret (.mod (.var rfl) .cInt (by decide)))))⟩
    | false => exact ⟨_, call_at rfl rfl rfl (.iteF (h0 ▸ h4 0) rfl (.iteF (h1 ▸ h4 1) rfl (.ret (.add .cInt (.mod (.var rfl) .cInt (by decide))))))⟩
theorem sign_at (n : Nat) (i : Int) : ∃ c : Nat, run P (n + 1) false "" "_law_sign" [.int i] [] σ = some (.ok (.str ⟨#[c]⟩), σ) := by
  have hs : (Str.ofString " !\"#$&'()*+,-./0123456789:;<=>?@ABCDEFGHIJKLMNOPQRSTUVWXYZ[\\]^_`" ++ Str.ofString "abcdefghijklmnopqrstuvwxyz{|}~").cps.size = 94 := by decide +kernel
  obtain ⟨h1, h2⟩ := place_mod (c := i) (k := 94) (m := 94) (by decide) (by decide) (by decide)
  rw [← hs] at h1 h2
  exact ⟨_, call_at rfl rfl rfl (.assign .cStr (.assign (.addS (.var rfl) .cStr (by decide +kernel)) (.ret (.idx (.var rfl) (.mod (.var rfl) .cInt (by decide)) (by
    show (place (i % 94) _).bind _ = _
    rw [h1]
    show Option.map _ (_ : Array Nat)[_]? = _
    rw [Array.getElem?_eq_getElem h2]; rfl)))))⟩
theorem text_at (n : Nat) (i k : Int) (hk : 0 ≤ k) (hk2 : k ≤ 1000) : ∃ s : Str, s.length ≤ 1000 ∧ (s.length : Int) = k ∧ run P (n + 2) false "" "_law_text" [.int i, .int k] [] σ = some (.ok (.str s), σ) := by
  obtain ⟨f, hf⟩ := pick (xs := rngList 0 k 1) (Q := fun y c => Ev (Mh (n + 1)) (upd (rhoOf [.int i, .int k]) 2 y) σ (.fcall "_law_sign" [(.bin .add (.var 0) (.bin .mul (.bin .mul (.cInt 7) (.var 2)) (.var 2)))]) (.str ⟨#[c]⟩) σ) fun y hy => by
    obtain ⟨j, hj, rfl⟩ := rng_mem hy
    obtain ⟨c, hc⟩ := sign_at (σ := σ) n (i + 7 * j * j)
    have hj2 : j ≤ 1000 := by lia
    have hj3 : j < 2 ^ 60 := Nat.lt_of_le_of_lt hj2 (by decide)
    exact ⟨c, .fcall (.cons (.add (.var rfl) (.mul (.mul .cInt (.var rfl) ⟨by decide, hj3⟩) (.var rfl) ⟨Nat.lt_of_le_of_lt (Nat.mul_le_mul_left 7 hj2) (by decide), hj3⟩)) .nil) hc⟩
  have e : (rngList 0 k 1).map (fun y => V.str ⟨#[f y]⟩) = ((rngList 0 k 1).map fun y => (⟨#[f y]⟩ : Str)).map .str := by rw [List.map_map]; rfl
  have hl : ((rngList 0 k 1).map fun y => (⟨#[f y]⟩ : Str)).length = k.toNat := by rw [List.length_map, rng_len]
  have hk3 : k.toNat ≤ 1000 := by lia
  have h1 := join_one (ss := (rngList 0 k 1).map fun y => (⟨#[f y]⟩ : Str)) fun s hs => by obtain ⟨y, _, rfl⟩ := List.mem_map.mp hs; rfl
  refine ⟨Str.join ⟨#[]⟩ ((rngList 0 k 1).map fun y => (⟨#[f y]⟩ : Str)), ?_, ?_, call_at rfl rfl rfl (.ret (.bmeth .cStr rfl (.cons (.comp (f := fun y => V.str ⟨#[f y]⟩) rfl (.bcall (.cons (.var rfl) .nil) rfl rfl) (rng_items hk hk2) rfl fun y hy => hf y hy) .nil) rfl ?_))⟩
  · rw [join_size, h1, hl]; exact hk3
  · rw [join_size, h1, hl]; exact Int.toNat_of_nonneg hk
  · rw [e]
    exact (oO (asStrs_map _)).trans (if_pos ⟨rfl, by rw [h1, hl]; exact Nat.le_trans (Nat.add_le_add hk3 hk3) (by decide)⟩)
theorem le_lim {a b : Nat} (ha : a ≤ 2000) (hb : b ≤ 2000) : a + b ≤ lim := Nat.le_trans (Nat.add_le_add ha hb) (by decide)
theorem one_le : (1 : Nat) ≤ 2000 := by decide
theorem lim6 : (6 : Nat) ≤ lim := by decide
theorem i2 : (2 : Int) ≤ ((2 : Nat) : Int) := by decide
theorem pool_at (n : Nat) (c d : Int) : ∃ (s : Str) (ss : List Str), (s :: ss).length = 6 ∧ (∀ (j : Nat) (x : Str), (s :: ss)[j]? = some x → j ≠ 2 → x.length ≤ 20) ∧ run P (n + 3) false "" "_law_pool" [.int c, .int d] [] σ = some (.ok (.lst ((s :: ss).map .str)), σ) := by
  obtain ⟨x, hx, hi⟩ := drawn (σ := σ) (vs := [.int (1 + c % 4), .int (1 + c % 18)]) (c := c / 4) (k := 2) (by decide) (by decide) i2
  have hk : ∃ k : Int, 1 ≤ k ∧ k ≤ 18 ∧ x = .int k := by
    rcases List.mem_cons.mp hx with rfl | hx
    · exact ⟨_, by lia, by lia, rfl⟩
    · cases List.mem_singleton.mp hx; exact ⟨_, by lia, by lia, rfl⟩
  obtain ⟨k, hk0, hk1, rfl⟩ := hk
  obtain ⟨s1, hs1, hq1, e1⟩ := text_at (σ := σ) n c k (by lia) (by lia)
  obtain ⟨a, e2⟩ := sign_at (σ := σ) (n + 1) d
  obtain ⟨b, e3⟩ := sign_at (σ := σ) (n + 1) (d / 94)
  obtain ⟨s6, _, hq6, e6⟩ := text_at (σ := σ) n d (20 - d % 3) (by lia) (by lia)
  have hA : 0 < (s1.length : Int) + 1 ∧ (s1.length : Int) + 1 < 2 ^ 60 := by lia
  have hat := Int.emod_nonneg (d / 8836) (Int.ne_of_gt hA.1)
  have hat2 := Int.emod_lt_of_pos (d / 8836) hA.1
  have hl1 : s1.length ≤ 18 := by lia
  refine ⟨s1, [s1 ++ ⟨#[a]⟩, (_ ++ ⟨#[b]⟩) ++ _, ⟨#[a]⟩, ⟨#[b]⟩ ++ s1, s6], rfl, ?_, call_at rfl rfl rfl
    (.assign (.fcall (.cons (.var rfl) (.cons (.idx (.list (.cons (.add .cInt (.mod (.var rfl) .cInt (by decide))) (.cons (.add .cInt (.mod (.var rfl) .cInt (by decide))) .nil)) lim2) (.mod (.fdiv (.var rfl) .cInt (by decide)) .cInt (by decide)) hi) .nil)) e1)
    (.assign (.fcall (.cons (.var rfl) .nil) e2) (.assign (.fcall (.cons (.fdiv (.var rfl) .cInt (by decide)) .nil) e3)
    (.assign (.mod (.fdiv (.var rfl) .cInt (by decide)) (.add (.bcall (.cons (.var rfl) .nil) rfl rfl) .cInt) hA)
    (.ret (.list (.cons (.var rfl) (.cons (.addS (.var rfl) (.var rfl) (le_lim (Nat.le_trans hs1 (by decide)) one_le)) (.cons (.addS (.addS (.slice (.var rfl) .cNone (.var rfl) rfl) (.var rfl) (le_lim (Nat.le_trans (cut_len ..) (Nat.le_trans hs1 (by decide))) one_le)) (.slice (.var rfl) (.var rfl) .cNone rfl) (le_lim (by rw [len_app]; exact Nat.le_trans (Nat.add_le_add (Nat.le_trans (cut_len ..) hs1) (show (1 : Nat) ≤ 1000 by decide)) (by decide)) (Nat.le_trans (cut_len ..) (Nat.le_trans hs1 (by decide)))))
      (.cons (.var rfl) (.cons (.addS (s := ⟨#[b]⟩) (.var rfl) (.var rfl) (le_lim one_le (Nat.le_trans hs1 (by decide)))) (.cons (.fcall (.cons (.var rfl) (.cons (.sub .cInt (.mod (.var rfl) .cInt (by decide))) .nil)) e6) .nil)))))) lim6))))))⟩
  intro j x hx hj
  have l1 : (⟨#[a]⟩ : Str).length = 1 := rfl
  have l2 : (⟨#[b]⟩ : Str).length = 1 := rfl
  match j, hx, hj with
  | 0, hx, _ => cases hx; lia
  | 1, hx, _ => cases hx; rw [len_app]; lia
  | 2, _, hj => exact absurd rfl hj
  | 3, hx, _ => cases hx; lia
  | 4, hx, _ => cases hx; rw [len_app]; lia
  | 5, hx, _ => cases hx; lia
  | _ + 6, hx, _ => cases hx
noncomputable def onlyTo (σ : St) (c : Str) : St := (σ.new (.list false [])).set σ.n (.list false [.str c])
theorem onlyTo_fr {A : List Nat} {σ : St} {c : Str} : Fr A σ (onlyTo σ c) := Fr.set (Fr.new Fr.refl) (.inr (Nat.le_refl _))
theorem only_eq {c w : Str} : cmpV (onlyTo σ c) .eq (.ref σ.n) (.lst [.str w]) = some (c == w) := by
  have hl : listAt (onlyTo σ c) σ.n = some [.str c] := by unfold listAt onlyTo; rw [get_set_eq]; rfl
  show onO (dataOf (onlyTo σ c) 6 (.ref σ.n)) _ = _
  rw [show dataOf (onlyTo σ c) 6 (.ref σ.n) = some (.list [.str c]) from by show onO (listAt _ _) _ = _; rw [hl]; rfl]
  show some (PyData.eqv (.list [.str c]) (.list [.str w])) = _
  show some ((c == w) && true) = _
  rw [Bool.and_true]
noncomputable def errs : List String := ["BadTicks", "NoLease", "NoKey", "Held", "NoStart", "NoWatch"]
theorem only_at {n : Nat} {w : Str} {c : String} (hc : c ∈ errs) : run P (n + 1) true "" "_law_only" [.exc c, .str w] [] σ = some (.ok (.bool (Str.ofString c == w)), onlyTo σ (Str.ofString c)) := by
  simp only [errs, List.mem_cons, List.not_mem_nil, or_false] at hc
  rcases hc with rfl | rfl | rfl | rfl | rfl | rfl
  · exact call_at rfl rfl rfl (.assign (.listM .nil (Nat.zero_le _)) (.iteT (.isinst (.var rfl) rfl) rfl (.expr (.bmeth (.var rfl) (pre_list get_new_eq rfl) (.cons .cStr .nil) rfl (append_at get_new_eq (by decide))) (.iteF (.isinst (.var rfl) rfl) rfl (.iteF (.isinst (.var rfl) rfl) rfl (.iteF (.isinst (.var rfl) rfl) rfl (.iteF (.isinst (.var rfl) rfl) rfl (.iteF (.isinst (.var rfl) rfl) rfl (.ret (.boolC (.isinst (.var rfl) rfl) rfl (.bool1 (.cmp (.var rfl) (.list (.cons (.var rfl) .nil) lim1) only_eq))))))))))))
  · exact call_at rfl rfl rfl (.assign (.listM .nil (Nat.zero_le _)) (.iteF (.isinst (.var rfl) rfl) rfl (.iteT (.isinst (.var rfl) rfl) rfl (.expr (.bmeth (.var rfl) (pre_list get_new_eq rfl) (.cons .cStr .nil) rfl (append_at get_new_eq (by decide))) (.iteF (.isinst (.var rfl) rfl) rfl (.iteF (.isinst (.var rfl) rfl) rfl (.iteF (.isinst (.var rfl) rfl) rfl (.iteF (.isinst (.var rfl) rfl) rfl (.ret (.boolC (.isinst (.var rfl) rfl) rfl (.bool1 (.cmp (.var rfl) (.list (.cons (.var rfl) .nil) lim1) only_eq))))))))))))
  · exact call_at rfl rfl rfl (.assign (.listM .nil (Nat.zero_le _)) (.iteF (.isinst (.var rfl) rfl) rfl (.iteF (.isinst (.var rfl) rfl) rfl (.iteT (.isinst (.var rfl) rfl) rfl (.expr (.bmeth (.var rfl) (pre_list get_new_eq rfl) (.cons .cStr .nil) rfl (append_at get_new_eq (by decide))) (.iteF (.isinst (.var rfl) rfl) rfl (.iteF (.isinst (.var rfl) rfl) rfl (.iteF (.isinst (.var rfl) rfl) rfl (.ret (.boolC (.isinst (.var rfl) rfl) rfl (.bool1 (.cmp (.var rfl) (.list (.cons (.var rfl) .nil) lim1) only_eq))))))))))))
  · exact call_at rfl rfl rfl (.assign (.listM .nil (Nat.zero_le _)) (.iteF (.isinst (.var rfl) rfl) rfl (.iteF (.isinst (.var rfl) rfl) rfl (.iteF (.isinst (.var rfl) rfl) rfl (.iteT (.isinst (.var rfl) rfl) rfl (.expr (.bmeth (.var rfl) (pre_list get_new_eq rfl) (.cons .cStr .nil) rfl (append_at get_new_eq (by decide))) (.iteF (.isinst (.var rfl) rfl) rfl (.iteF (.isinst (.var rfl) rfl) rfl (.ret (.boolC (.isinst (.var rfl) rfl) rfl (.bool1 (.cmp (.var rfl) (.list (.cons (.var rfl) .nil) lim1) only_eq))))))))))))
  · exact call_at rfl rfl rfl (.assign (.listM .nil (Nat.zero_le _)) (.iteF (.isinst (.var rfl) rfl) rfl (.iteF (.isinst (.var rfl) rfl) rfl (.iteF (.isinst (.var rfl) rfl) rfl (.iteF (.isinst (.var rfl) rfl) rfl (.iteT (.isinst (.var rfl) rfl) rfl (.expr (.bmeth (.var rfl) (pre_list get_new_eq rfl) (.cons .cStr .nil) rfl (append_at get_new_eq (by decide))) (.iteF (.isinst (.var rfl) rfl) rfl (.ret (.boolC (.isinst (.var rfl) rfl) rfl (.bool1 (.cmp (.var rfl) (.list (.cons (.var rfl) .nil) lim1) only_eq))))))))))))
  · exact call_at rfl rfl rfl (.assign (.listM .nil (Nat.zero_le _)) (.iteF (.isinst (.var rfl) rfl) rfl (.iteF (.isinst (.var rfl) rfl) rfl (.iteF (.isinst (.var rfl) rfl) rfl (.iteF (.isinst (.var rfl) rfl) rfl (.iteF (.isinst (.var rfl) rfl) rfl (.iteT (.isinst (.var rfl) rfl) rfl (.expr (.bmeth (.var rfl) (pre_list get_new_eq rfl) (.cons .cStr .nil) rfl (append_at get_new_eq (by decide))) (.ret (.boolC (.isinst (.var rfl) rfl) rfl (.bool1 (.cmp (.var rfl) (.list (.cons (.var rfl) .nil) lim1) only_eq))))))))))))
theorem eq_words {s w : Str} {b : Bool} (h : (s == w) = b) : cmpV σ .eq (.str s) (.str w) = some b := congrArg some h
theorem truth_eq {s w : Str} {b : Bool} (h : (s == w) = b) : truthV σ (.bool (s == w)) = some b := congrArg some h
theorem words_loop {n k e : Nat} {c : String} (hc : c ∈ errs) (hk : k ≠ e) : ∀ (ws : List Str), Str.ofString c ∈ ws → ∀ (ρ : Rho) (σ : St), ρ e = some (.exc c) →
    ∃ ρ' σ', loop (fun v ρ σ => execs P (run P (n + 1)) true false [.ite (.fcall "_law_only" [(.var e), (.var k)]) [.ret (.var k)] []] (upd ρ k v) σ) (ws.map .str) ρ σ = some (.ret (.str (Str.ofString c)), ρ', σ') ∧ Fr [] σ σ' := by
  intro ws
  induction ws with
  | nil =>
    intro h _ _ _
    exact nomatch h
  | cons w ws ih =>
    intro h ρ σ he
    have he' : upd ρ k (.str w) e = some (.exc c) := (if_neg hk.symm).trans he
    have hk' : upd ρ k (.str w) k = some (.str w) := if_pos rfl
    by_cases hw : (Str.ofString c == w) = true
    · have := eq_of_beq hw
      subst this
      exact ⟨_, _, loop_ret (Ex.iteT (M := Mq (n + 1)) (.fcall (.cons (.var he') (.cons (.var hk') .nil)) (only_at hc)) (truth_eq hw) (.ret (.var hk'))), onlyTo_fr⟩
    · have hw : (Str.ofString c == w) = false := by simpa using hw
      have hm : Str.ofString c ∈ ws := (List.mem_cons.mp h).resolve_left fun q => by rw [q, beq_self_eq_true] at hw; cases hw
      obtain ⟨ρ', σ', h1, h2⟩ := ih hm (upd ρ k (.str w)) (onlyTo σ (Str.ofString c)) he'
      have e1 : execs P (run P (n + 1)) true false [.ite (.fcall "_law_only" [(.var e), (.var k)]) [.ret (.var k)] []] (upd ρ k (.str w)) σ = some (.next, upd ρ k (.str w), onlyTo σ (Str.ofString c)) := Ex.iteF (M := Mq (n + 1)) (.fcall (.cons (.var he') (.cons (.var hk') .nil)) (only_at hc)) (truth_eq hw) .nil
      exact ⟨ρ', σ', (loop_next (f := fun v ρ σ => execs P (run P (n + 1)) true false [.ite (.fcall "_law_only" [(.var e), (.var k)]) [.ret (.var k)] []] (upd ρ k v) σ) e1).trans h1, onlyTo_fr.trans h2⟩
theorem clamp_nat {d m l : Nat} : clamp d (.int m) l = some (min m l) := by
  show some (if (0 : Int) ≤ m then min (m : Int).toNat l else _) = _
  rw [if_pos (Int.natCast_nonneg _)]; rfl
theorem cut_take {α : Type} {vs : List α} {m : Nat} : cutL vs 0 (min m vs.length) = vs.take m := List.take_eq_take_iff.mpr (by rw [Nat.min_assoc, Nat.min_self])
theorem slice_to {σ : St} {s : Str} {m : Nat} : sliceV false (.str s) .none (.int m) σ = some (.ok (.str ⟨(s.cps.toList.take m).toArray⟩), σ) := by
  show onO (clamp s.cps.toList.length (.int m) s.cps.toList.length) (fun b => some (Res.ok (V.str ⟨(cutL s.cps.toList 0 b).toArray⟩), σ)) = _
  rw [clamp_nat]; exact congrArg (fun l : List Nat => some (Res.ok (V.str ⟨l.toArray⟩), σ)) cut_take
theorem pre_eq (s p : Str) : ((⟨(s.cps.toList.take p.cps.size).toArray⟩ : Str) == p) = preS p s := by
  rw [Bool.eq_iff_iff, beq_iff_eq, List.isPrefixOf_iff_prefix, List.prefix_iff_eq_take]
  obtain ⟨⟨p⟩⟩ := p
  constructor
  · intro h
    have h : (s.cps.toList.take p.length).toArray = p.toArray := congrArg Str.cps h
    exact (congrArg Array.toList h).symm
  · intro h
    have h : p = s.cps.toList.take p.length := h
    show (⟨(s.cps.toList.take p.length).toArray⟩ : Str) = ⟨⟨p⟩⟩
    rw [← h]
theorem row_data {v : V} (h : IsRow v) : ∃ d, dataOf σ 5 v = some d := by
  obtain ⟨i, t, w, k, x, rfl⟩ := h; exact ⟨_, rfl⟩
theorem change_at {n : Nat} {i t : Int} {w k x : Str} : run P (n + 2) false "" "_law_change" [row i t w k x] [] σ = some (.ok (.bool true), σ) := by kernel_rfl
theorem changes_at (n t : Nat) {y : V} {rs : List V} (ht : σ.get t = some (.list false rs)) (hy : seqOf σ y = some rs) (hl : bfV .len [y] σ = some (.ok (.int rs.length), σ)) (hr : ∀ v ∈ rs, IsRow v) :
    run P (n + 3) false "" "_law_changes" [.ref t, y] [] σ = some (.ok (.bool true), σ.set t (.list false [])) := by
  have hs : seqOf σ (.ref t) = some rs := listAt_of ht
  obtain ⟨ρ', σ', hloop, h0, h1, rfl⟩ := loop_inv (f := fun v ρ σ => execs P (run P (n + 2)) false true [.ite (.not (.fcall "_law_change" [(.var 2)])) [.ret (.cBool false)] []] (upd ρ 2 v) σ) (fun _ ρ σ' => ρ 0 = some (.ref t) ∧ ρ 1 = some y ∧ lockV σ (.ref t) = σ') rs 0 (rhoOf [.ref t, y]) (lockV σ (.ref t)) ⟨rfl, rfl, rfl⟩ fun i v ρ σ' hv ⟨h0, h1, h2⟩ => by
    obtain ⟨i, q, w, k, x, rfl⟩ := hr v (List.mem_of_getElem? hv)
    exact ⟨_, σ', Ex.iteF (M := Mh (n + 2)) (.not (.fcall (.cons (.var rfl) .nil) (change_at (n := n) (i := i) (t := q) (w := w) (k := k) (x := x))) rfl) rfl .nil, h0, h1, h2⟩
  exact call_at (ρ := upd ρ' 3 (.bool true)) rfl rfl rfl (.iteF (.boolC (.not (.isinst (.var rfl) (inst_list _ hs)) rfl) rfl (.bool1 (.cmp (.bcall (.cons (.var rfl) .nil) rfl (len_ref ht)) (.bcall (.cons (.var rfl) .nil) rfl hl) ne_self))) rfl
    (.forP rfl (.var rfl) (items_ref ht) hloop (relock ht) (.assign (.cmp (.var h0) (.var h1) (eq_seq hs hy fun v hv => row_data (hr v hv))) (.expr (.bmeth (.var h0) (pre_list ht rfl) .nil rfl (clear_at ht)) (.ret (.var rfl))))))
end Lw.L09
namespace Lw.L09
open PySem
structure Rm where
  now : Int
  g : Nat
  E : List (Int × Int)
  Ls : List (Int × Int)
  D : List (Str × (Str × Int))
  old : List V
  R : List V
  wn : Nat
  ws : List (Int × V)
structure Qm where
  g : Nat
  now : Int
  mine : List (Int × V)
  ls : List V
  lk : Bool
noncomputable abbrev Rm.H (r : Rm) : List V := r.old ++ r.R
noncomputable abbrev Rm.last (r : Rm) : Nat := r.old.length + r.R.length
noncomputable abbrev vI (E : List (Int × Int)) : List (Int × V) := vals V.int E
noncomputable abbrev keptD (D : List (Str × (Str × Int))) : List (Str × V) := vals (fun x : Str × Int => V.str x.1) D
noncomputable abbrev holdD (D : List (Str × (Str × Int))) : List (Str × V) := vals (fun x : Str × Int => V.int x.2) D
noncomputable abbrev roomO (now : Int) (l lg k h : Nat) (wn : Int) (w : Nat) : O := .inst "Room" [("now", .int now), ("leases", .ref l), ("log", .ref lg), ("kept", .ref k), ("holders", .ref h), ("watching", .int wn), ("watchers", .ref w)]
noncomputable abbrev leaO (g : Int) (e l : Nat) : O := .inst "Leases" [("given", .int g), ("ends", .ref e), ("lengths", .ref l)]
noncomputable abbrev logO (o : Int) (r : Nat) : O := .inst "Log" [("gone", .int o), ("rows", .ref r)]
noncomputable abbrev mineO (g now : Int) (f : Nat) : O := .ds false [((Str.ofString "given"), .int g), ((Str.ofString "now"), .int now), ((Str.ofString "mine"), .ref f)]
noncomputable def objs (r : Rm) (q : Qm) (a : Fin 12 → Nat) (i : Fin 12) : O := List.get [roomO r.now (a 1) (a 4) (a 6) (a 7) r.wn (a 8), leaO r.g (a 2) (a 3), .di false (vI r.E), .di false (vI r.Ls), logO r.old.length (a 5), .list false r.R, .ds false (keptD r.D), .ds false (holdD r.D), .di false r.ws, mineO q.g q.now (a 10), .di false q.mine, .list q.lk q.ls] i
structure At (σ : St) (a : Fin 12 → Nat) (r : Rm) (q : Qm) : Prop where
  at_ : ∀ i, σ.get (a i) = some (objs r q a i)
  inj : ∀ i j, a i = a j → i = j
  lt : ∀ i, a i < σ.n
theorem forall12 {p : Fin 12 → Prop} (h0 : p 0) (h1 : p 1) (h2 : p 2) (h3 : p 3) (h4 : p 4) (h5 : p 5) (h6 : p 6) (h7 : p 7) (h8 : p 8) (h9 : p 9) (h10 : p 10) (h11 : p 11) : ∀ i, p i :=
  Fin.cases h0 (Fin.cases h1 (Fin.cases h2 (Fin.cases h3 (Fin.cases h4 (Fin.cases h5 (Fin.cases h6 (Fin.cases h7 (Fin.cases h8 (Fin.cases h9 (Fin.cases h10 (Fin.cases h11 fun i => i.elim0)))))))))))
noncomputable def setA (σ : St) (a : Fin 12 → Nat) : List (Fin 12 × O) → St
  | [] => σ
  | x :: l => setA (σ.set (a x.1) x.2) a l
noncomputable def lookA : List (Fin 12 × O) → Fin 12 → Option O → Option O
  | [], _, d => d
  | x :: l, j, d => lookA l j (if j = x.1 then some x.2 else d)
structure FrA (a : Fin 12 → Nat) (σ σ' : St) : Prop where
  n : σ.n ≤ σ'.n
  at_ : ∀ j, j < σ.n → (∀ i, j ≠ a i) → σ'.get j = σ.get j
section
variable {a : Fin 12 → Nat} {σ σ₁ σ₂ : St} {r r' : Rm} {q q' : Qm}
theorem get_setA (inj : ∀ i j, a i = a j → i = j) : ∀ (l : List (Fin 12 × O)) (σ : St) (j : Fin 12), (setA σ a l).get (a j) = lookA l j (σ.get (a j)) := by
  intro l
  induction l with
  | nil =>
    intro _ _
    exact rfl
  | cons x l ih =>
    intro σ j
    show (setA (σ.set (a x.1) x.2) a l).get (a j) = lookA l j (if j = x.1 then some x.2 else σ.get (a j))
    rw [ih]
    by_cases h : j = x.1
    · rw [if_pos h, h, get_set_eq]
    · rw [if_neg h, get_set_ne fun e => h (inj _ _ e)]
theorem n_setA : ∀ (l : List (Fin 12 × O)) (σ : St), (setA σ a l).n = σ.n := by
  intro l
  induction l with
  | nil =>
    intro _
    exact rfl
  | cons _ l ih =>
    intro σ
    exact ih _
theorem At.sets (h : At σ a r q) (l : List (Fin 12 × O)) (hl : ∀ i, lookA l i (some (objs r q a i)) = some (objs r' q' a i)) : At (setA σ a l) a r' q' :=
  ⟨fun i => by rw [get_setA h.inj, h.at_ i]; exact hl i, h.inj, fun i => by rw [n_setA]; exact h.lt i⟩
theorem At.conv (h : At σ a r q) (hl : ∀ i, objs r q a i = objs r' q' a i) : At σ a r' q' := ⟨fun i => (h.at_ i).trans (congrArg some (hl i)), h.inj, h.lt⟩
theorem At.ne (h : At σ a r q) {i j : Fin 12} (hij : i ≠ j) : a i ≠ a j := fun e => hij (h.inj i j e)
theorem At.fr (h : At σ a r q) (k : Fr [] σ σ₁) : At σ₁ a r q := ⟨fun i => (k.at_ _ (h.lt i) (fun q => nomatch q)).trans (h.at_ i), h.inj, fun i => Nat.lt_of_lt_of_le (h.lt i) k.n⟩
theorem FrA.refl : FrA a σ σ := ⟨Nat.le_refl _, fun _ _ _ => rfl⟩
theorem FrA.trans (h : FrA a σ σ₁) (k : FrA a σ₁ σ₂) : FrA a σ σ₂ := ⟨Nat.le_trans h.n k.n, fun j hj ha => (k.at_ j (Nat.lt_of_lt_of_le hj h.n) ha).trans (h.at_ j hj ha)⟩
theorem FrA.of (h : Fr [] σ σ₁) : FrA a σ σ₁ := ⟨h.n, fun j hj _ => h.at_ j hj (fun q => nomatch q)⟩
theorem FrA.sets : ∀ (l : List (Fin 12 × O)) (σ : St), FrA a σ (setA σ a l) := by
  intro l
  induction l with
  | nil =>
    intro _
    exact .refl
  | cons x l ih =>
    intro σ
    exact FrA.trans (σ₁ := σ.set (a x.1) x.2) ⟨Nat.le_refl _, fun j _ ha => get_set_ne (ha x.1)⟩ (ih (σ.set (a x.1) x.2))
end
theorem lim5 : 5 ≤ lim := by decide
section
variable {a : Fin 12 → Nat} {σ : St} {r : Rm} {q : Qm} {n : Nat}
theorem last_run (h : At σ a r q) : run P (n + 1) false "Log" "last" [.ref (a 4)] [] σ = some (.ok (.int r.last), σ) :=
  have e : run P (n + 1) false "Log" "last" [.ref (a 4)] [] σ = some (.ok (.int ((r.old.length : Int) + (r.R.length : Int))), σ) := call_at rfl rfl rfl (.ret (.add (.attr (.var rfl) (attr_at (h.at_ 4) rfl)) (.bcall (.cons (.attr (.var rfl) (attr_at (h.at_ 4) rfl)) .nil) rfl (len_ref (h.at_ 5)))))
  e
theorem note_run {t : Int} {w k x : Str} (h : At σ a r q) (hb : r.R.length < lim) : run P (n + 2) false "Log" "note" [.ref (a 4), .int t, .str w, .str k, .str x] [] σ = some (.ok (.int (r.last + 1)), setA σ a [(5, .list false (r.R ++ [row (r.last + 1) t w k x]))]) :=
  call_at rfl rfl rfl (.assign (.add (.mcall (.var rfl) (meth_at (h.at_ 4) rfl) .nil .nil (last_run h)) .cInt) (.expr (.bmeth (.attr (.var rfl) (attr_at (h.at_ 4) rfl)) (pre_list (h.at_ 5) rfl) (.cons (.tup (.cons (.var rfl) (.cons (.var rfl) (.cons (.var rfl) (.cons (.var rfl) (.cons (.var rfl) .nil))))) lim5) .nil) rfl (append_at (h.at_ 5) hb)) (.ret (.var rfl))))
noncomputable def cutDR (o : Nat) (t : Int) (s : List (Str × (Str × Int)) × List V) (k : Str) : List (Str × (Str × Int)) × List V := (rm s.1 k, s.2 ++ [row (((o + s.2.length : Nat) : Int) + 1) t "cut" k ""])
noncomputable def withDR (r : Rm) (s : List (Str × (Str × Int)) × List V) : Rm := { r with D := s.1, R := s.2 }
theorem taken_run {t : Int} {k : Str} {y : Str × Int} (h : At σ a r q) (hb : r.R.length < lim) (hk : lk r.D k = some y) : ∃ S, run P (n + 3) false "Room" "taken_out" [.ref (a 0), .str k, .int t] [] σ = some (.ok (.int (r.last + 1)), S) ∧ At S a (withDR r (cutDR r.old.length t (r.D, r.R) k)) q ∧ FrA a σ S := by
  have h2 : At (setA σ a [(6, .ds false (keptD (rm r.D k))), (7, .ds false (holdD (rm r.D k)))]) a { r with D := rm r.D k } q := h.sets _ (forall12 rfl rfl rfl rfl rfl rfl rfl rfl rfl rfl rfl rfl)
  have g0 : (σ.set (a 6) (.ds false (keptD (rm r.D k)))).get (a 0) = some (objs r q a 0) := (get_set_ne (h.ne (by decide))).trans (h.at_ 0)
  have g7 : (σ.set (a 6) (.ds false (keptD (rm r.D k)))).get (a 7) = some (objs r q a 7) := (get_set_ne (h.ne (by decide))).trans (h.at_ 7)
  have e3 := note_run (n := n) (t := t) (w := Str.ofString "cut") (k := k) (x := Str.ofString "") h2 hb
  refine ⟨_, call_at rfl rfl rfl (.expr (.bmeth (.attr (.var rfl) (attr_at (h.at_ 0) rfl)) (pre_ds (h.at_ 6) rfl) (.cons (.var rfl) .nil) rfl ((pop_ds (h.at_ 6) (by rw [lk_vals, hk]; rfl)).trans (by rw [rm_vals])))
    (.expr (.bmeth (.attr (.var rfl) (attr_at g0 rfl)) (pre_ds g7 rfl) (.cons (.var rfl) .nil) rfl ((pop_ds g7 (by rw [lk_vals, hk]; rfl)).trans (by rw [rm_vals]; rfl)))
    (.ret (.mcall (.attr (.var rfl) (attr_at (h2.at_ 0) rfl)) (meth_at (h2.at_ 4) rfl) (.cons (.var rfl) (.cons .cStr (.cons (.var rfl) (.cons .cStr .nil)))) .nil e3)))), ?_, ?_⟩
  · exact h2.sets _ (forall12 rfl rfl rfl rfl rfl rfl rfl rfl rfl rfl rfl rfl)
  · exact (FrA.sets _ _).trans (FrA.sets _ _)
noncomputable def cutAll (o : Nat) (t : Int) (ks : List Str) (s : List (Str × (Str × Int)) × List V) : List (Str × (Str × Int)) × List V := ks.foldl (cutDR o t) s
theorem cutAll_nd {o : Nat} {t : Int} : ∀ (ks : List Str) (s : List (Str × (Str × Int)) × List V), (s.1.map (·.1)).Nodup → ((cutAll o t ks s).1.map (·.1)).Nodup := by
  intro ks
  induction ks with
  | nil =>
    intro _ h
    exact h
  | cons k ks ih =>
    intro s h
    exact ih _ (h.sublist (List.filter_sublist.map _))
noncomputable def keyB : List S := [.expr (.mcall (.var 0) "taken_out" [(.var 3), (.var 2)] [] [])]
theorem freed_loop {t : Int} : ∀ (ks : List Str) (s : List (Str × (Str × Int)) × List V) (ρ : Rho) (σ : St), At σ a (withDR r s) q → ks.Nodup → (∀ k ∈ ks, ∃ y, lk s.1 k = some y) → s.2.length + ks.length < lim → ρ 0 = some (.ref (a 0)) → ρ 2 = some (.int t) →
    ∃ ρ' S, loop (fun v ρ σ => execs P (run P (n + 3)) false true keyB (upd ρ 3 v) σ) (ks.map .str) ρ σ = some (.next, ρ', S) ∧ At S a (withDR r (cutAll r.old.length t ks s)) q ∧ FrA a σ S := by
  intro ks
  induction ks with
  | nil =>
    intro s ρ σ h _ _ _ _ _
    exact ⟨ρ, σ, rfl, h, .refl⟩
  | cons k ks ih =>
    intro s ρ σ h hn hk hb h0 h2
    obtain ⟨y, hy⟩ := hk k (List.mem_cons_self ..)
    obtain ⟨S, e, k1, k2⟩ := taken_run (n := n) (t := t) h (Nat.lt_of_le_of_lt (Nat.le_add_right _ _) hb) hy
    obtain ⟨n1, n2⟩ := List.nodup_cons.mp hn
    obtain ⟨ρ', S', e', j1, j2⟩ := ih (cutDR r.old.length t s k) (upd ρ 3 (.str k)) S k1 n2 (fun k' hk' => by
      obtain ⟨z, hz⟩ := hk k' (List.mem_cons_of_mem _ hk')
      refine ⟨z, ?_⟩
      show lk (rm s.1 k) k' = _
      rw [lk_rm, if_neg fun q : k' = k => n1 (q ▸ hk')]; exact hz) (by
      show (s.2 ++ [_]).length + ks.length < lim
      rw [List.length_append]; rw [List.length_cons] at hb; show s.2.length + 1 + ks.length < lim; lia) h0 h2
    have e1 : execs P (run P (n + 3)) false true keyB (upd ρ 3 (.str k)) σ = some (.next, upd ρ 3 (.str k), S) := Ex.expr (M := Mh (n + 3)) (.mcall (.var h0) (meth_at (h.at_ 0) rfl) (.cons (.var rfl) (.cons (.var h2) .nil)) .nil e) .nil
    exact ⟨ρ', S', (loop_next (f := fun v ρ σ => execs P (run P (n + 3)) false true keyB (upd ρ 3 v) σ) e1).trans e', j1, k2.trans j2⟩
end
end Lw.L09
namespace Lw.L09
open PySem
noncomputable def holdAt (D : List (Str × (Str × Int))) (k : Str) : Int := ((lk D k).getD (⟨#[]⟩, 0)).2
noncomputable def valAt (D : List (Str × (Str × Int))) (k : Str) : Str := ((lk D k).getD (⟨#[]⟩, 0)).1
noncomputable def byHand (D : List (Str × (Str × Int))) (h : Int) (k : Str) : Bool := holdAt D k == h
noncomputable def ksOf (D : List (Str × (Str × Int))) (h : Int) : List Str := ((D.map (·.1)).filter (byHand D h)).mergeSort strLe
section
variable {D : List (Str × (Str × Int))} {h : Int} {k : Str}
theorem ks_perm : (ksOf D h).Perm ((D.map (·.1)).filter (byHand D h)) := List.mergeSort_perm ..
theorem ks_len : (ksOf D h).length ≤ D.length := by
  rw [ks_perm.length_eq]
  exact Nat.le_trans (List.length_filter_le ..) (by rw [List.length_map]; exact Nat.le_refl _)
theorem ks_nd (hn : (D.map (·.1)).Nodup) : (ksOf D h).Nodup := ks_perm.nodup_iff.mpr (hn.sublist List.filter_sublist)
theorem ks_in (hk : k ∈ ksOf D h) : ∃ y, lk D k = some y := lk_key (List.mem_filter.mp (ks_perm.mem_iff.mp hk)).1
theorem held_at (hk : k ∈ D.map (·.1)) : lk (holdD D) k = some (.int (holdAt D k)) ∧ lk (keptD D) k = some (.str (valAt D k)) := by
  obtain ⟨y, hy⟩ := lk_key hk
  unfold holdAt valAt
  rw [lk_vals, lk_vals, hy]; exact ⟨rfl, rfl⟩
theorem keys_str {f : Str × Int → V} : ((vals f D).map fun kv => V.str kv.1) = (D.map (·.1)).map V.str := by unfold vals; rw [List.map_map, List.map_map]; rfl
end
section
variable {a : Fin 12 → Nat} {σ : St} {r : Rm} {q : Qm} {n : Nat}
theorem keys_ev {ρ : Rho} {h : Int} (A : At σ a r q) (h0 : ρ 0 = some (.ref (a 0))) (h1 : ρ 1 = some (.int h)) (hl : r.D.length < 64) :
    Ev (Mh n) ρ σ (.bcall (.sorted false false) [(.comp false (.var 4) 4 (.attr (.var 0) "kept") (.cmp .eq (.idx (.attr (.var 0) "holders") (.var 4)) (.var 1)))]) (.lst ((ksOf r.D h).map .str)) σ := by
  have l0 : (lockV σ (.ref (a 6))).get (a 0) = some (objs r q a 0) := by rw [lock_ds (A.at_ 6), get_set_ne (A.ne (by decide))]; exact A.at_ 0
  have l7 : (lockV σ (.ref (a 6))).get (a 7) = some (objs r q a 7) := by rw [lock_ds (A.at_ 6), get_set_ne (A.ne (by decide))]; exact A.at_ 7
  have key := Ev.compF (M := Mh n) (ρ := ρ) (σ := σ) (k := 4) (a := .attr (.var 0) "kept") (b := .var 4) (d := .cmp .eq (.idx (.attr (.var 0) "holders") (.var 4)) (.var 1))
    (f := fun y => y) (p := fun y => match y with | .str k => byHand r.D h k | _ => false) rfl (.attr (.var h0) (attr_at (A.at_ 0) rfl)) (items_ds (A.at_ 6)) (relock_ds (A.at_ 6))
    (fun y hy => by
      rw [keys_str] at hy
      obtain ⟨k, hk, rfl⟩ := List.mem_map.mp hy
      exact .cmp (.idx (.attr (.var h0) (attr_at l0 rfl)) (.var rfl) (item_ds l7 (held_at hk).1)) (.var h1) rfl)
    (fun y hy _ => .var rfl)
  have e : ((((keptD r.D).map fun kv => V.str kv.1).filter fun y => match y with | .str k => byHand r.D h k | _ => false).map fun y => y) = ((r.D.map (·.1)).filter (byHand r.D h)).map V.str := by
    rw [keys_str, List.filter_map, List.map_id'']; rfl
    intro _; rfl
  rw [e] at key
  exact .bcall (.cons key .nil) rfl (sortS_at (Nat.lt_of_le_of_lt (Nat.le_trans (List.length_filter_le ..) (by rw [List.length_map]; exact Nat.le_refl _)) hl))
theorem freed_run {h t : Int} (A : At σ a r q) (hn : (r.D.map (·.1)).Nodup) (hl : r.D.length < 64) (hb : r.R.length + r.D.length < lim) : ∃ S, run P (n + 4) false "Room" "freed" [.ref (a 0), .int h, .int t] [] σ = some (.ok .none, S) ∧ At S a (withDR r (cutAll r.old.length t (ksOf r.D h) (r.D, r.R))) q ∧ FrA a σ S := by
  obtain ⟨ρ', S, e, k1, k2⟩ := freed_loop (n := n) (t := t) (r := r) (q := q) (a := a) (ksOf r.D h) (r.D, r.R) (rhoOf [.ref (a 0), .int h, .int t]) σ (A.conv (forall12 rfl rfl rfl rfl rfl rfl rfl rfl rfl rfl rfl rfl)) (ks_nd hn) (fun k hk => ks_in hk) (Nat.lt_of_le_of_lt (Nat.add_le_add_left ks_len _) hb) rfl rfl
  exact ⟨S, call_at0 rfl rfl rfl (.for1 rfl (keys_ev A rfl rfl hl) rfl e .nil), k1, k2⟩
theorem need_ok {k v : Int} (A : At σ a r q) (hv : lk r.E k = some v) : run P (n + 1) false "Leases" "need" [.ref (a 1), .int k] [] σ = some (.ok .none, σ) :=
  call_at0 rfl rfl rfl (.iteF (.cmp (.var rfl) (.attr (.var rfl) (attr_at (A.at_ 1) rfl)) (notin_di (A.at_ 2))) (by rw [lk_vals, hv]; rfl) .nil)
theorem need_no {k : Int} (A : At σ a r q) (hv : lk r.E k = none) : run P (n + 1) false "Leases" "need" [.ref (a 1), .int k] [] σ = some (.exc "NoLease", σ) :=
  call_atX rfl rfl rfl (.iteT (.cmp (.var rfl) (.attr (.var rfl) (attr_at (A.at_ 1) rfl)) (notin_di (A.at_ 2))) (by rw [lk_vals, hv]; rfl) .raise)
theorem lgrant_run {t : Int} (A : At σ a r q) (hE : r.E.length < lim) (hL : r.Ls.length < lim) (h1 : ¬ t < 1) (h2 : ¬ 1000000 < t) : run P (n + 1) false "Leases" "grant" [.ref (a 1), .int r.now, .int t] [] σ = some (.ok (.int (r.g + 1)), setA σ a [(1, leaO (r.g + 1) (a 2) (a 3)), (2, .di false (vI (st r.E (r.g + 1) (r.now + t)))), (3, .di false (vI (st r.Ls (r.g + 1) t)))]) := by
  have g1 : (σ.set (a 1) (leaO (r.g + 1) (a 2) (a 3))).get (a 2) = some (.di false (vI r.E)) := (get_set_ne (A.ne (by decide))).trans (A.at_ 2)
  have g2 : ((σ.set (a 1) (leaO (r.g + 1) (a 2) (a 3))).set (a 2) (.di false (vI (st r.E (r.g + 1) (r.now + t))))).get (a 3) = some (.di false (vI r.Ls)) := (get_set_ne (A.ne (by decide))).trans ((get_set_ne (A.ne (by decide))).trans (A.at_ 3))
  have g0' : (σ.set (a 1) (leaO (r.g + 1) (a 2) (a 3))).get (a 1) = some (leaO (r.g + 1) (a 2) (a 3)) := get_set_eq
  have g0'' : ((σ.set (a 1) (leaO (r.g + 1) (a 2) (a 3))).set (a 2) (.di false (vI (st r.E (r.g + 1) (r.now + t))))).get (a 1) = some (leaO (r.g + 1) (a 2) (a 3)) := (get_set_ne (A.ne (by decide))).trans get_set_eq
  have g0''' : (((σ.set (a 1) (leaO (r.g + 1) (a 2) (a 3))).set (a 2) (.di false (vI (st r.E (r.g + 1) (r.now + t))))).set (a 3) (.di false (vI (st r.Ls (r.g + 1) t)))).get (a 1) = some (leaO (r.g + 1) (a 2) (a 3)) := (get_set_ne (A.ne (by decide))).trans g0''
  exact call_at rfl rfl rfl (.iteF (.boolC (.cmp (.var rfl) .cInt (congrArg some (decide_eq_false h1))) rfl (.bool1 (.cmp (.var rfl) .gint (congrArg some (decide_eq_false h2))))) rfl
    (.setattr (.add (.attr (.var rfl) (attr_at (A.at_ 1) rfl)) .cInt) (.var rfl) (setattr_at (A.at_ 1) (show (3 : Nat) < 100 by decide))
    (.setidx (.add (.var rfl) (.var rfl)) (.attr (.var rfl) (attr_at g0' rfl)) (.attr (.var rfl) (attr_at g0' rfl)) ((put_di g1 (by rw [len_vals]; exact hE)).trans (by rw [st_vals]))
    (.setidx (.var rfl) (.attr (.var rfl) (attr_at g0'' rfl)) (.attr (.var rfl) (attr_at g0'' rfl)) ((put_di g2 (by rw [len_vals]; exact hL)).trans (by rw [st_vals]; rfl))
    (.ret (.attr (.var rfl) (attr_at g0''' rfl)))))))
theorem lgrant_bad {t : Int} {now : Int} (hh : t < 1 ∨ 1000000 < t) : run P (n + 1) false "Leases" "grant" [.ref (a 1), .int now, .int t] [] σ = some (.exc "BadTicks", σ) := by
  by_cases h1 : t < 1
  · exact call_atX rfl rfl rfl (.iteT (.boolS (.cmp (.var rfl) .cInt (congrArg some (decide_eq_true h1))) rfl) rfl .raise)
  · exact call_atX rfl rfl rfl (.iteT (.boolC (.cmp (.var rfl) .cInt (congrArg some (decide_eq_false h1))) rfl (.bool1 (.cmp (.var rfl) .gint (congrArg some (decide_eq_true (hh.resolve_left h1)))))) rfl .raise)
theorem ldrop_run {k v x : Int} (A : At σ a r q) (hv : lk r.E k = some v) (hx : lk r.Ls k = some x) : run P (n + 2) false "Leases" "drop" [.ref (a 1), .int k] [] σ = some (.ok .none, setA σ a [(2, .di false (vI (rm r.E k))), (3, .di false (vI (rm r.Ls k)))]) := by
  have g0 : (σ.set (a 2) (.di false (vI (rm r.E k)))).get (a 1) = some (objs r q a 1) := (get_set_ne (A.ne (by decide))).trans (A.at_ 1)
  have g2 : (σ.set (a 2) (.di false (vI (rm r.E k)))).get (a 3) = some (.di false (vI r.Ls)) := (get_set_ne (A.ne (by decide))).trans (A.at_ 3)
  exact call_at0 rfl rfl rfl (.expr (.mcall (.var rfl) (meth_at (A.at_ 1) rfl) (.cons (.var rfl) .nil) .nil (need_ok A hv))
    (.expr (.bmeth (.attr (.var rfl) (attr_at (A.at_ 1) rfl)) (pre_di (A.at_ 2) rfl) (.cons (.var rfl) .nil) rfl ((pop_di (A.at_ 2) (by rw [lk_vals, hv]; rfl)).trans (by rw [rm_vals])))
    (.expr (.bmeth (.attr (.var rfl) (attr_at g0 rfl)) (pre_di g2 rfl) (.cons (.var rfl) .nil) rfl ((pop_di g2 (by rw [lk_vals, hx]; rfl)).trans (by rw [rm_vals]; rfl))) .nil)))
theorem ldrop_no {k : Int} (A : At σ a r q) (hv : lk r.E k = none) : run P (n + 2) false "Leases" "drop" [.ref (a 1), .int k] [] σ = some (.exc "NoLease", σ) :=
  call_atX rfl rfl rfl (.exprX (.mcall (.var rfl) (meth_at (A.at_ 1) rfl) (.cons (.var rfl) .nil) .nil (need_no A hv)))
end
end Lw.L09
namespace Lw.L09
open PySem
section
variable {a : Fin 12 → Nat} {σ : St} {r : Rm} {q : Qm} {n : Nat}
noncomputable def rGrant (r : Rm) (t : Int) : Rm := { r with g := r.g + 1, E := st r.E (r.g + 1) (r.now + t), Ls := st r.Ls (r.g + 1) t }
theorem grant_run {t : Int} (A : At σ a r q) (hE : r.E.length < lim) (hL : r.Ls.length < lim) (h1 : ¬ t < 1) (h2 : ¬ 1000000 < t) : ∃ S, run P (n + 2) false "Room" "grant" [.ref (a 0), .int t] [] σ = some (.ok (.int (r.g + 1)), S) ∧ At S a (rGrant r t) q ∧ FrA a σ S :=
  ⟨_, call_at rfl rfl rfl (.ret (.mcall (.attr (.var rfl) (attr_at (A.at_ 0) rfl)) (meth_at (A.at_ 1) rfl) (.cons (.attr (.var rfl) (attr_at (A.at_ 0) rfl)) (.cons (.var rfl) .nil)) .nil (lgrant_run A hE hL h1 h2))),
    A.sets _ (forall12 rfl rfl rfl rfl rfl rfl rfl rfl rfl rfl rfl rfl), FrA.sets _ _⟩
theorem grant_bad {t : Int} (A : At σ a r q) (hh : t < 1 ∨ 1000000 < t) : run P (n + 2) false "Room" "grant" [.ref (a 0), .int t] [] σ = some (.exc "BadTicks", σ) :=
  call_atX rfl rfl rfl (.retX (.mcall (.attr (.var rfl) (attr_at (A.at_ 0) rfl)) (meth_at (A.at_ 1) rfl) (.cons (.attr (.var rfl) (attr_at (A.at_ 0) rfl)) (.cons (.var rfl) .nil)) .nil (lgrant_bad hh)))
noncomputable def rDrop (r : Rm) (h t : Int) : Rm := withDR { r with E := rm r.E h, Ls := rm r.Ls h } (cutAll r.old.length t (ksOf r.D h) (r.D, r.R))
theorem drop_run {h v x : Int} (A : At σ a r q) (hn : (r.D.map (·.1)).Nodup) (hl : r.D.length < 64) (hb : r.R.length + r.D.length < lim) (hv : lk r.E h = some v) (hx : lk r.Ls h = some x) : ∃ S, run P (n + 5) false "Room" "drop" [.ref (a 0), .int h] [] σ = some (.ok .none, S) ∧ At S a (rDrop r h r.now) q ∧ FrA a σ S := by
  have A2 : At (setA σ a [(2, .di false (vI (rm r.E h))), (3, .di false (vI (rm r.Ls h)))]) a { r with E := rm r.E h, Ls := rm r.Ls h } q := A.sets _ (forall12 rfl rfl rfl rfl rfl rfl rfl rfl rfl rfl rfl rfl)
  obtain ⟨S, e, k1, k2⟩ := freed_run (n := n) (h := h) (t := r.now) A2 hn hl hb
  exact ⟨S, call_at0 rfl rfl rfl (.expr (.mcall (.attr (.var rfl) (attr_at (A.at_ 0) rfl)) (meth_at (A.at_ 1) rfl) (.cons (.var rfl) .nil) .nil (ldrop_run (n := n + 2) A hv hx))
    (.expr (.mcall (.var rfl) (meth_at (A2.at_ 0) rfl) (.cons (.var rfl) (.cons (.attr (.var rfl) (attr_at (A2.at_ 0) rfl)) .nil)) .nil e) .nil)), k1, (FrA.sets _ _).trans k2⟩
theorem drop_no {h : Int} (A : At σ a r q) (hv : lk r.E h = none) : run P (n + 5) false "Room" "drop" [.ref (a 0), .int h] [] σ = some (.exc "NoLease", σ) :=
  call_atX rfl rfl rfl (.exprX (.mcall (.attr (.var rfl) (attr_at (A.at_ 0) rfl)) (meth_at (A.at_ 1) rfl) (.cons (.var rfl) .nil) .nil (ldrop_no (n := n + 2) A hv)))
noncomputable def isHeld (D : List (Str × (Str × Int))) (k : Str) (h : Int) : Bool := match lk D k with
  | some y => !(y.2 == 0) && !(y.2 == h)
  | none => false
theorem heldC_ev {ρ : Rho} {k : Str} {h : Int} (A : At σ a r q) (h0 : ρ 0 = some (.ref (a 0))) (h1 : ρ 1 = some (.str k)) (h2 : ρ 2 = some (.int h)) :
    Ev (Mh n) ρ σ (.bool true [(.cmp .isin (.var 1) (.attr (.var 0) "kept")), (.cmp .ne (.idx (.attr (.var 0) "holders") (.var 1)) (.cInt 0)), (.cmp .ne (.idx (.attr (.var 0) "holders") (.var 1)) (.var 2))]) (.bool (isHeld r.D k h)) σ := by
  have c1 : Ev (Mh n) ρ σ (.cmp .isin (.var 1) (.attr (.var 0) "kept")) (.bool (lk r.D k).isSome) σ := .cmp (.var h1) (.attr (.var h0) (attr_at (A.at_ 0) rfl)) ((in_ds (A.at_ 6)).trans (by rw [lk_vals, Option.isSome_map]))
  unfold isHeld
  cases hy : lk r.D k with
  | none => rw [hy] at c1; exact .boolS c1 rfl
  | some y =>
    rw [hy] at c1
    have hi : Ev (Mh n) ρ σ (.idx (.attr (.var 0) "holders") (.var 1)) (.int y.2) σ := .idx (.attr (.var h0) (attr_at (A.at_ 0) rfl)) (.var h1) (item_ds (A.at_ 7) (by rw [lk_vals, hy]; rfl))
    exact .boolC c1 rfl (.and2 (.cmp hi .cInt ne_int) (.cmp hi (.var h2) ne_int))
theorem free_ok {k : Str} {h : Int} (A : At σ a r q) (hh : isHeld r.D k h = false) : run P (n + 1) false "Room" "need_free" [.ref (a 0), .str k, .int h] [] σ = some (.ok .none, σ) :=
  call_at0 rfl rfl rfl (.iteF (heldC_ev A rfl rfl rfl) (by rw [hh]; rfl) .nil)
theorem free_no {k : Str} {h : Int} (A : At σ a r q) (hh : isHeld r.D k h = true) : run P (n + 1) false "Room" "need_free" [.ref (a 0), .str k, .int h] [] σ = some (.exc "Held", σ) :=
  call_atX rfl rfl rfl (.iteT (heldC_ev A rfl rfl rfl) (by rw [hh]; rfl) .raise)
noncomputable def noLease (r : Rm) (h : Int) : Bool := !(h == 0) && !(lk r.E h).isSome
theorem lease_ok {ρ : Rho} {h : Int} {j : Nat} {rest : List S} {R : RS} (A : At σ a r q) (h0 : ρ 0 = some (.ref (a 0))) (hj : ρ j = some (.int h)) (hh : noLease r h = false) (k : Ex (Mh (n + 1)) rest ρ σ R) :
    Ex (Mh (n + 1)) (.ite (.cmp .ne (.var j) (.cInt 0)) [.expr (.mcall (.attr (.var 0) "leases") "need" [(.var j)] [] [])] [] :: rest) ρ σ R := by
  have c : Ev (Mh (n + 1)) ρ σ (.cmp .ne (.var j) (.cInt 0)) (.bool (!(h == 0))) σ := .cmp (.var hj) .cInt ne_int
  cases hz : h == 0 with
  | true => rw [hz] at c; exact .iteF c rfl k
  | false =>
    rw [hz] at c
    have hs : (lk r.E h).isSome = true := by unfold noLease at hh; rw [hz] at hh; simpa using hh
    obtain ⟨v, hv⟩ := Option.isSome_iff_exists.mp hs
    exact .iteT c rfl (.expr (.mcall (.attr (.var h0) (attr_at (A.at_ 0) rfl)) (meth_at (A.at_ 1) rfl) (.cons (.var hj) .nil) .nil (need_ok A hv)) k)
theorem lease_no {ρ : Rho} {h : Int} {j : Nat} {rest : List S} (A : At σ a r q) (h0 : ρ 0 = some (.ref (a 0))) (hj : ρ j = some (.int h)) (hh : noLease r h = true) :
    Ex (Mh (n + 1)) (.ite (.cmp .ne (.var j) (.cInt 0)) [.expr (.mcall (.attr (.var 0) "leases") "need" [(.var j)] [] [])] [] :: rest) ρ σ (some (.exc "NoLease", ρ, σ)) := by
  have c : Ev (Mh (n + 1)) ρ σ (.cmp .ne (.var j) (.cInt 0)) (.bool (!(h == 0))) σ := .cmp (.var hj) .cInt ne_int
  obtain ⟨z1, z2⟩ := Bool.and_eq_true_iff.mp hh
  rw [z1] at c
  have hv : lk r.E h = none := by cases q : lk r.E h with | none => rfl | some v => rw [q] at z2; cases z2
  exact .iteT c rfl (.exprX (.mcall (.attr (.var h0) (attr_at (A.at_ 0) rfl)) (meth_at (A.at_ 1) rfl) (.cons (.var hj) .nil) .nil (need_no A hv)))
noncomputable def rPut (r : Rm) (k x : Str) (h : Int) : Rm := { r with D := st r.D k (x, h), R := r.R ++ [row (r.last + 1) r.now "put" k x] }
noncomputable def rCut (r : Rm) (k : Str) : Rm := withDR r (cutDR r.old.length r.now (r.D, r.R) k)
theorem put_body {k x : Str} {h : Int} (A : At σ a r q) (hb : r.R.length < lim) (hl : r.D.length < lim) (h1 : noLease r h = false) (h2 : isHeld r.D k h = false) : ∃ ρ' S, Ex (Mh (n + 2)) f_Room_put.body (rhoOf [.ref (a 0), .str k, .str x, .int h]) σ (some (.ret (.int (r.last + 1)), ρ', S)) ∧ At S a (rPut r k x h) q ∧ FrA a σ S := by
  have A2 : At (setA σ a [(6, .ds false (keptD (st r.D k (x, h)))), (7, .ds false (holdD (st r.D k (x, h))))]) a { r with D := st r.D k (x, h) } q := A.sets _ (forall12 rfl rfl rfl rfl rfl rfl rfl rfl rfl rfl rfl rfl)
  have g0 : (σ.set (a 6) (.ds false (keptD (st r.D k (x, h))))).get (a 0) = some (objs r q a 0) := (get_set_ne (A.ne (by decide))).trans (A.at_ 0)
  have g7 : (σ.set (a 6) (.ds false (keptD (st r.D k (x, h))))).get (a 7) = some (objs r q a 7) := (get_set_ne (A.ne (by decide))).trans (A.at_ 7)
  have e3 := note_run (n := n) (t := r.now) (w := Str.ofString "put") (k := k) (x := x) A2 hb
  exact ⟨_, _, lease_ok A rfl rfl h1 (.expr (.mcall (.var rfl) (meth_at (A.at_ 0) rfl) (.cons (.var rfl) (.cons (.var rfl) .nil)) .nil (free_ok A h2))
    (.setidx (.var rfl) (.attr (.var rfl) (attr_at (A.at_ 0) rfl)) (.var rfl) ((put_ds (A.at_ 6) (by rw [len_vals]; exact hl)).trans (by rw [st_vals (f := fun x : Str × Int => V.str x.1) (v := (x, h))]))
    (.setidx (.var rfl) (.attr (.var rfl) (attr_at g0 rfl)) (.var rfl) ((put_ds g7 (by rw [len_vals]; exact hl)).trans (by rw [st_vals (f := fun x : Str × Int => V.int x.2) (v := (x, h))]; rfl))
    (.ret (.mcall (.attr (.var rfl) (attr_at (A2.at_ 0) rfl)) (meth_at (A2.at_ 4) rfl) (.cons (.attr (.var rfl) (attr_at (A2.at_ 0) rfl)) (.cons .cStr (.cons (.var rfl) (.cons (.var rfl) .nil)))) .nil e3))))),
    A2.sets _ (forall12 rfl rfl rfl rfl rfl rfl rfl rfl rfl rfl rfl rfl), (FrA.sets _ _).trans (FrA.sets _ _)⟩
theorem put_held {k x : Str} {h : Int} (A : At σ a r q) (h1 : noLease r h = false) (h2 : isHeld r.D k h = true) : Ex (Mh (n + 2)) f_Room_put.body (rhoOf [.ref (a 0), .str k, .str x, .int h]) σ (some (.exc "Held", rhoOf [.ref (a 0), .str k, .str x, .int h], σ)) :=
  lease_ok A rfl rfl h1 (.exprX (.mcall (.var rfl) (meth_at (A.at_ 0) rfl) (.cons (.var rfl) (.cons (.var rfl) .nil)) .nil (free_no A h2)))
theorem put_lease {k x : Str} {h : Int} (A : At σ a r q) (h1 : noLease r h = true) : Ex (Mh (n + 2)) f_Room_put.body (rhoOf [.ref (a 0), .str k, .str x, .int h]) σ (some (.exc "NoLease", rhoOf [.ref (a 0), .str k, .str x, .int h], σ)) := lease_no A rfl rfl h1
theorem cut_body {k : Str} {h : Int} {y : Str × Int} (A : At σ a r q) (hb : r.R.length < lim) (h1 : noLease r h = false) (hk : lk r.D k = some y) (h2 : isHeld r.D k h = false) : ∃ ρ' S, Ex (Mh (n + 3)) f_Room_cut.body (rhoOf [.ref (a 0), .str k, .int h]) σ (some (.ret (.int (r.last + 1)), ρ', S)) ∧ At S a (rCut r k) q ∧ FrA a σ S := by
  obtain ⟨S, e, k1, k2⟩ := taken_run (n := n) (t := r.now) A hb hk
  exact ⟨_, S, lease_ok A rfl rfl h1 (.iteF (.cmp (.var rfl) (.attr (.var rfl) (attr_at (A.at_ 0) rfl)) (notin_ds (A.at_ 6))) (by rw [lk_vals, hk]; rfl) (.expr (.mcall (.var rfl) (meth_at (A.at_ 0) rfl) (.cons (.var rfl) (.cons (.var rfl) .nil)) .nil (free_ok A h2))
    (.ret (.mcall (.var rfl) (meth_at (A.at_ 0) rfl) (.cons (.var rfl) (.cons (.attr (.var rfl) (attr_at (A.at_ 0) rfl)) .nil)) .nil e)))), k1, k2⟩
theorem cut_held {k : Str} {h : Int} {y : Str × Int} (A : At σ a r q) (h1 : noLease r h = false) (hk : lk r.D k = some y) (h2 : isHeld r.D k h = true) : Ex (Mh (n + 3)) f_Room_cut.body (rhoOf [.ref (a 0), .str k, .int h]) σ (some (.exc "Held", rhoOf [.ref (a 0), .str k, .int h], σ)) :=
  lease_ok A rfl rfl h1 (.iteF (.cmp (.var rfl) (.attr (.var rfl) (attr_at (A.at_ 0) rfl)) (notin_ds (A.at_ 6))) (by rw [lk_vals, hk]; rfl) (.exprX (.mcall (.var rfl) (meth_at (A.at_ 0) rfl) (.cons (.var rfl) (.cons (.var rfl) .nil)) .nil (free_no A h2))))
theorem cut_nokey {k : Str} {h : Int} (A : At σ a r q) (h1 : noLease r h = false) (hk : lk r.D k = none) : Ex (Mh (n + 3)) f_Room_cut.body (rhoOf [.ref (a 0), .str k, .int h]) σ (some (.exc "NoKey", rhoOf [.ref (a 0), .str k, .int h], σ)) :=
  lease_ok A rfl rfl h1 (.iteT (.cmp (.var rfl) (.attr (.var rfl) (attr_at (A.at_ 0) rfl)) (notin_ds (A.at_ 6))) (by rw [lk_vals, hk]; rfl) .raise)
theorem cut_lease {k : Str} {h : Int} (A : At σ a r q) (h1 : noLease r h = true) : Ex (Mh (n + 3)) f_Room_cut.body (rhoOf [.ref (a 0), .str k, .int h]) σ (some (.exc "NoLease", rhoOf [.ref (a 0), .str k, .int h], σ)) := lease_no A rfl rfl h1
end
end Lw.L09
namespace Lw.L09
open PySem
inductive Deed where
  | grant (t : Int) | renew (h : Int) | drop (h : Int) | wait (t : Int) | put (k x : Str) (h : Int) | cut (k : Str) (h : Int)
noncomputable def dv : Deed → V
  | .grant t => .tup [.str (Str.ofString "grant"), .int t]
  | .renew h => .tup [.str (Str.ofString "renew"), .int h]
  | .drop h => .tup [.str (Str.ofString "drop"), .int h]
  | .wait t => .tup [.str (Str.ofString "wait"), .int t]
  | .put k x h => .tup [.str (Str.ofString "put"), .str k, .str x, .int h]
  | .cut k h => .tup [.str (Str.ofString "cut"), .str k, .int h]
noncomputable def wordOf : Deed → Str
  | .grant _ => Str.ofString "grant" | .renew _ => Str.ofString "renew" | .drop _ => Str.ofString "drop" | .wait _ => Str.ofString "wait" | .put _ _ _ => Str.ofString "put" | .cut _ _ => Str.ofString "cut"
section
variable {a : Fin 12 → Nat} {σ S : St} {r : Rm} {q : Qm} {n : Nat} {d : Deed}
theorem dv_0 : idxV σ (dv d) (.int 0) = some (.str (wordOf d)) := by cases d <;> rfl
theorem wd {M : Mc} {ρ : Rho} {x : Str} {b : Bool} (h1 : ρ 1 = some (dv d)) (hb : (wordOf d == x) = b) : Ev M ρ σ (.cmp .eq (.idx (.var 1) (.cInt 0)) (.cStr x)) (.bool b) σ := .cmp (.idx (.var h1) .cInt dv_0) .cStr (eq_words hb)
theorem wdG {M : Mc} {ρ : Rho} {x : Str} {b : Bool} {t : Int} (h1 : ρ 1 = some (dv (.grant t))) (hb : (Str.ofString "grant" == x) = b) : Ev M ρ σ (.cmp .eq (.idx (.var 1) (.cInt 0)) (.cStr x)) (.bool b) σ := wd h1 hb
theorem wdD {M : Mc} {ρ : Rho} {x : Str} {b : Bool} {t : Int} (h1 : ρ 1 = some (dv (.drop t))) (hb : (Str.ofString "drop" == x) = b) : Ev M ρ σ (.cmp .eq (.idx (.var 1) (.cInt 0)) (.cStr x)) (.bool b) σ := wd h1 hb
theorem call_grant {t : Int} {v : V} (A : At σ a r q) (e : run P (n + 1) false "Room" "grant" [.ref (a 0), .int t] [] σ = some (.ok v, S)) : run P (n + 2) false "" "_law_call" [.ref (a 0), dv (.grant t)] [] σ = some (.ok v, S) :=
  call_at rfl rfl rfl (.iteT (wdG rfl (by decide +kernel)) rfl (.ret (.mcall (.var rfl) (meth_at (A.at_ 0) rfl) (.cons (.idx (.var rfl) .cInt rfl) .nil) .nil e)))
theorem call_grantX {t : Int} {c : String} (A : At σ a r q) (e : run P (n + 1) false "Room" "grant" [.ref (a 0), .int t] [] σ = some (.exc c, S)) : run P (n + 2) false "" "_law_call" [.ref (a 0), dv (.grant t)] [] σ = some (.exc c, S) :=
  call_atX rfl rfl rfl (.iteT (wdG rfl (by decide +kernel)) rfl (.retX (.mcall (.var rfl) (meth_at (A.at_ 0) rfl) (.cons (.idx (.var rfl) .cInt rfl) .nil) .nil e)))
theorem call_drop {h : Int} {v : V} (A : At σ a r q) (e : run P (n + 1) false "Room" "drop" [.ref (a 0), .int h] [] σ = some (.ok v, S)) : run P (n + 2) false "" "_law_call" [.ref (a 0), dv (.drop h)] [] σ = some (.ok v, S) :=
  call_at rfl rfl rfl (.iteF (wdD rfl (by decide +kernel)) rfl (.iteF (wdD rfl (by decide +kernel)) rfl (.iteF (wdD rfl (by decide +kernel)) rfl (.iteT (wdD rfl (by decide +kernel)) rfl (.ret (.mcall (.var rfl) (meth_at (A.at_ 0) rfl) (.cons (.idx (.var rfl) .cInt rfl) .nil) .nil e))))))
theorem call_dropX {h : Int} {c : String} (A : At σ a r q) (e : run P (n + 1) false "Room" "drop" [.ref (a 0), .int h] [] σ = some (.exc c, S)) : run P (n + 2) false "" "_law_call" [.ref (a 0), dv (.drop h)] [] σ = some (.exc c, S) :=
  call_atX rfl rfl rfl (.iteF (wdD rfl (by decide +kernel)) rfl (.iteF (wdD rfl (by decide +kernel)) rfl (.iteF (wdD rfl (by decide +kernel)) rfl (.iteT (wdD rfl (by decide +kernel)) rfl (.retX (.mcall (.var rfl) (meth_at (A.at_ 0) rfl) (.cons (.idx (.var rfl) .cInt rfl) .nil) .nil e))))))
theorem call_put {k x : Str} {h : Int} {v : V} {ρ' : Rho} (A : At σ a r q) (e : Ex (Mh n) f_Room_put.body (rhoOf [.ref (a 0), .str k, .str x, .int h]) σ (some (.ret v, ρ', S))) : run P (n + 2) false "" "_law_call" [.ref (a 0), dv (.put k x h)] [] σ = some (.ok v, S) := by
  have w0 : ∀ {y : Str} {b : Bool}, (Str.ofString "put" == y) = b → Ev (Mh (n + 1)) (rhoOf [.ref (a 0), dv (.put k x h)]) σ (.cmp .eq (.idx (.var 1) (.cInt 0)) (.cStr y)) (.bool b) σ := fun hb => wd (d := .put k x h) rfl hb
  refine call_at (ρ := rhoOf [.ref (a 0), dv (.put k x h)]) rfl rfl rfl (.iteF (w0 (by decide +kernel)) rfl (.iteF (w0 (by decide +kernel)) rfl (.iteF (w0 (by decide +kernel)) rfl (.iteF (w0 (by decide +kernel)) rfl ?_))))
  have c0 : Ev (Mh (n + 1)) (rhoOf [.ref (a 0), dv (.put k x h)]) σ (.bool true [(.cmp .eq (.idx (.var 1) (.cInt 0)) (.cStr "put")), (.cmp .eq (.idx (.var 1) (.cInt 3)) (.cInt 0))]) (.bool (h == 0)) σ := .boolC (w0 (b := true) (by decide +kernel)) rfl (.bool1 (.cmp (.idx (.var rfl) .cInt rfl) .cInt rfl))
  have c1 : Ev (Mh (n + 1)) (rhoOf [.ref (a 0), dv (.put k x h)]) σ (.bool true [(.cmp .eq (.idx (.var 1) (.cInt 0)) (.cStr "put")), (.cmp .eq (.bin .mod (.idx (.var 1) (.cInt 3)) (.cInt 2)) (.cInt 0))]) (.bool (h % 2 == 0)) σ := .boolC (w0 (b := true) (by decide +kernel)) rfl (.bool1 (.cmp (.mod (.idx (.var rfl) .cInt rfl) .cInt (by decide)) .cInt rfl))
  cases hz : h == 0 with
  | true =>
    rw [hz] at c0
    have := eq_of_beq hz
    subst this
    exact .iteT c0 rfl (.ret (.mcall (.var rfl) (meth_at (A.at_ 0) rfl) (.cons (.idx (.var rfl) .cInt rfl) (.cons (.idx (.var rfl) .cInt rfl) .nil)) .nil (show run P (n + 1) false "Room" "put" [.ref (a 0), .str k, .str x] [] σ = some (.ok v, S) from call_at (fn := f_Room_put) rfl rfl rfl e)))
  | false =>
    rw [hz] at c0
    cases h2 : h % 2 == 0 with
    | true =>
      rw [h2] at c1
      exact .iteF c0 rfl (.iteT c1 rfl (.ret (.mcall (.var rfl) (meth_at (A.at_ 0) rfl) (.cons (.idx (.var rfl) .cInt rfl) (.cons (.idx (.var rfl) .cInt rfl) .nil)) (.cons (.idx (.var rfl) .cInt rfl) .nil) (show run P (n + 1) false "Room" "put" [.ref (a 0), .str k, .str x] [("lease", .int h)] σ = some (.ok v, S) from call_at (fn := f_Room_put) rfl rfl rfl e))))
    | false =>
      rw [h2] at c1
      exact .iteF c0 rfl (.iteF c1 rfl (.iteT (w0 (by decide +kernel)) rfl (.ret (.mcall (.var rfl) (meth_at (A.at_ 0) rfl) (.cons (.idx (.var rfl) .cInt rfl) (.cons (.idx (.var rfl) .cInt rfl) (.cons (.idx (.var rfl) .cInt rfl) .nil))) .nil (show run P (n + 1) false "Room" "put" [.ref (a 0), .str k, .str x, .int h] [] σ = some (.ok v, S) from call_at (fn := f_Room_put) rfl rfl rfl e)))))
theorem call_putX {k x : Str} {h : Int} {c : String} {ρ' : Rho} (A : At σ a r q) (e : Ex (Mh n) f_Room_put.body (rhoOf [.ref (a 0), .str k, .str x, .int h]) σ (some (.exc c, ρ', S))) : run P (n + 2) false "" "_law_call" [.ref (a 0), dv (.put k x h)] [] σ = some (.exc c, S) := by
  have w0 : ∀ {y : Str} {b : Bool}, (Str.ofString "put" == y) = b → Ev (Mh (n + 1)) (rhoOf [.ref (a 0), dv (.put k x h)]) σ (.cmp .eq (.idx (.var 1) (.cInt 0)) (.cStr y)) (.bool b) σ := fun hb => wd (d := .put k x h) rfl hb
  refine call_atX (ρ := rhoOf [.ref (a 0), dv (.put k x h)]) rfl rfl rfl (.iteF (w0 (by decide +kernel)) rfl (.iteF (w0 (by decide +kernel)) rfl (.iteF (w0 (by decide +kernel)) rfl (.iteF (w0 (by decide +kernel)) rfl ?_))))
  have c0 : Ev (Mh (n + 1)) (rhoOf [.ref (a 0), dv (.put k x h)]) σ (.bool true [(.cmp .eq (.idx (.var 1) (.cInt 0)) (.cStr "put")), (.cmp .eq (.idx (.var 1) (.cInt 3)) (.cInt 0))]) (.bool (h == 0)) σ := .boolC (w0 (b := true) (by decide +kernel)) rfl (.bool1 (.cmp (.idx (.var rfl) .cInt rfl) .cInt rfl))
  have c1 : Ev (Mh (n + 1)) (rhoOf [.ref (a 0), dv (.put k x h)]) σ (.bool true [(.cmp .eq (.idx (.var 1) (.cInt 0)) (.cStr "put")), (.cmp .eq (.bin .mod (.idx (.var 1) (.cInt 3)) (.cInt 2)) (.cInt 0))]) (.bool (h % 2 == 0)) σ := .boolC (w0 (b := true) (by decide +kernel)) rfl (.bool1 (.cmp (.mod (.idx (.var rfl) .cInt rfl) .cInt (by decide)) .cInt rfl))
  cases hz : h == 0 with
  | true =>
    rw [hz] at c0
    have := eq_of_beq hz
    subst this
    exact .iteT c0 rfl (.retX (.mcall (.var rfl) (meth_at (A.at_ 0) rfl) (.cons (.idx (.var rfl) .cInt rfl) (.cons (.idx (.var rfl) .cInt rfl) .nil)) .nil (show run P (n + 1) false "Room" "put" [.ref (a 0), .str k, .str x] [] σ = some (.exc c, S) from call_atX (fn := f_Room_put) rfl rfl rfl e)))
  | false =>
    rw [hz] at c0
    cases h2 : h % 2 == 0 with
    | true =>
      rw [h2] at c1
      exact .iteF c0 rfl (.iteT c1 rfl (.retX (.mcall (.var rfl) (meth_at (A.at_ 0) rfl) (.cons (.idx (.var rfl) .cInt rfl) (.cons (.idx (.var rfl) .cInt rfl) .nil)) (.cons (.idx (.var rfl) .cInt rfl) .nil) (show run P (n + 1) false "Room" "put" [.ref (a 0), .str k, .str x] [("lease", .int h)] σ = some (.exc c, S) from call_atX (fn := f_Room_put) rfl rfl rfl e))))
    | false =>
      rw [h2] at c1
      exact .iteF c0 rfl (.iteF c1 rfl (.iteT (w0 (by decide +kernel)) rfl (.retX (.mcall (.var rfl) (meth_at (A.at_ 0) rfl) (.cons (.idx (.var rfl) .cInt rfl) (.cons (.idx (.var rfl) .cInt rfl) (.cons (.idx (.var rfl) .cInt rfl) .nil))) .nil (show run P (n + 1) false "Room" "put" [.ref (a 0), .str k, .str x, .int h] [] σ = some (.exc c, S) from call_atX (fn := f_Room_put) rfl rfl rfl e)))))
theorem cut_way {k : Str} {h : Int} {R : RS} (A : At σ a r q) (hT : h % 2 = 0 → Ex (Mh (n + 1)) [.ret (.mcall (.var 0) "cut" [(.idx (.var 1) (.cInt 1))] ["lease"] [(.idx (.var 1) (.cInt 2))]), .ret (.mcall (.var 0) "cut" [(.idx (.var 1) (.cInt 1)), (.idx (.var 1) (.cInt 2))] [] [])] (rhoOf [.ref (a 0), dv (.cut k h)]) σ R)
    (hF : h % 2 ≠ 0 → Ex (Mh (n + 1)) [.ret (.mcall (.var 0) "cut" [(.idx (.var 1) (.cInt 1)), (.idx (.var 1) (.cInt 2))] [] [])] (rhoOf [.ref (a 0), dv (.cut k h)]) σ R) : Ex (Mh (n + 1)) f__law_call.body (rhoOf [.ref (a 0), dv (.cut k h)]) σ R := by
  have w0 : ∀ {y : Str} {b : Bool}, (Str.ofString "cut" == y) = b → Ev (Mh (n + 1)) (rhoOf [.ref (a 0), dv (.cut k h)]) σ (.cmp .eq (.idx (.var 1) (.cInt 0)) (.cStr y)) (.bool b) σ := fun hb => wd (d := .cut k h) rfl hb
  refine .iteF (w0 (by decide +kernel)) rfl (.iteF (w0 (by decide +kernel)) rfl (.iteF (w0 (by decide +kernel)) rfl (.iteF (w0 (by decide +kernel)) rfl (.iteF (.boolS (w0 (b := false) (by decide +kernel)) rfl) rfl (.iteF (.boolS (w0 (b := false) (by decide +kernel)) rfl) rfl (.iteF (w0 (by decide +kernel)) rfl ?_))))))
  have c1 : Ev (Mh (n + 1)) (rhoOf [.ref (a 0), dv (.cut k h)]) σ (.cmp .eq (.bin .mod (.idx (.var 1) (.cInt 2)) (.cInt 2)) (.cInt 0)) (.bool (h % 2 == 0)) σ := .cmp (.mod (.idx (.var rfl) .cInt rfl) .cInt (by decide)) .cInt rfl
  cases h2 : h % 2 == 0 with
  | true => rw [h2] at c1; exact .iteT c1 rfl (hT (eq_of_beq h2))
  | false => rw [h2] at c1; exact .iteF c1 rfl (hF (ne_of_beq_false h2))
theorem call_cut {k : Str} {h : Int} {v : V} {ρ' : Rho} (A : At σ a r q) (e : Ex (Mh n) f_Room_cut.body (rhoOf [.ref (a 0), .str k, .int h]) σ (some (.ret v, ρ', S))) : run P (n + 2) false "" "_law_call" [.ref (a 0), dv (.cut k h)] [] σ = some (.ok v, S) :=
  call_at (fn := f__law_call) rfl rfl rfl (cut_way A (fun _ => .ret (.mcall (.var rfl) (meth_at (A.at_ 0) rfl) (.cons (.idx (.var rfl) .cInt rfl) .nil) (.cons (.idx (.var rfl) .cInt rfl) .nil) (show run P (n + 1) false "Room" "cut" [.ref (a 0), .str k] [("lease", .int h)] σ = some (.ok v, S) from call_at (fn := f_Room_cut) rfl rfl rfl e)))
    fun _ => .ret (.mcall (.var rfl) (meth_at (A.at_ 0) rfl) (.cons (.idx (.var rfl) .cInt rfl) (.cons (.idx (.var rfl) .cInt rfl) .nil)) .nil (show run P (n + 1) false "Room" "cut" [.ref (a 0), .str k, .int h] [] σ = some (.ok v, S) from call_at (fn := f_Room_cut) rfl rfl rfl e)))
theorem call_cutX {k : Str} {h : Int} {c : String} {ρ' : Rho} (A : At σ a r q) (e : Ex (Mh n) f_Room_cut.body (rhoOf [.ref (a 0), .str k, .int h]) σ (some (.exc c, ρ', S))) : run P (n + 2) false "" "_law_call" [.ref (a 0), dv (.cut k h)] [] σ = some (.exc c, S) :=
  call_atX (fn := f__law_call) rfl rfl rfl (cut_way A (fun _ => .retX (.mcall (.var rfl) (meth_at (A.at_ 0) rfl) (.cons (.idx (.var rfl) .cInt rfl) .nil) (.cons (.idx (.var rfl) .cInt rfl) .nil) (show run P (n + 1) false "Room" "cut" [.ref (a 0), .str k] [("lease", .int h)] σ = some (.exc c, S) from call_atX (fn := f_Room_cut) rfl rfl rfl e)))
    fun _ => .retX (.mcall (.var rfl) (meth_at (A.at_ 0) rfl) (.cons (.idx (.var rfl) .cInt rfl) (.cons (.idx (.var rfl) .cInt rfl) .nil)) .nil (show run P (n + 1) false "Room" "cut" [.ref (a 0), .str k, .int h] [] σ = some (.exc c, S) from call_atX (fn := f_Room_cut) rfl rfl rfl e)))
theorem done_ok {x v : V} {d : V} (e : run P (n + 1) false "" "_law_call" [x, d] [] σ = some (.ok v, S)) : run P (n + 2) false "" "_law_done" [x, d] [] σ = some (.ok v, S) :=
  call_at rfl rfl rfl (.tryOk (.ret (.fcall (.cons (.var rfl) (.cons (.var rfl) .nil)) e)))
theorem lim4 : 4 ≤ lim := by decide
theorem done_exc {x : V} {d : V} {c : String} (hc : c ∈ ["BadTicks", "NoLease", "NoKey", "Held"]) (e : run P (n + 1) false "" "_law_call" [x, d] [] σ = some (.exc c, S)) : ∃ S', run P (n + 2) false "" "_law_done" [x, d] [] σ = some (.ok (.str (Str.ofString c)), S') ∧ Fr [] S S' := by
  have he : c ∈ errs := List.mem_append_left ["NoStart", "NoWatch"] hc
  have hs : P.sub c "LeaseError" = true := (show ∀ c ∈ ["BadTicks", "NoLease", "NoKey", "Held"], sub c "LeaseError" = true by decide +kernel) c hc
  have hm : Str.ofString c ∈ [Str.ofString "BadTicks", Str.ofString "NoLease", Str.ofString "NoKey", Str.ofString "Held"] := List.mem_map.mpr ⟨c, hc, rfl⟩
  obtain ⟨ρ', S', h1, h2⟩ := words_loop (n := n) (k := 3) (e := 2) he (by decide) _ hm (upd (rhoOf [x, d]) 2 (.exc c)) S rfl
  exact ⟨S', call_at rfl rfl rfl (.tryX (.retX (.fcall (.cons (.var rfl) (.cons (.var rfl) .nil)) e)) hs (.forRet (.list (.cons .cStr (.cons .cStr (.cons .cStr (.cons .cStr .nil)))) lim4) h1)), h2⟩
end
end Lw.L09
namespace Lw.L09
open PySem
noncomputable def endAt (E : List (Int × Int)) (k : Int) : Int := (lk E k).getD 0
noncomputable def dueP (E : List (Int × Int)) (u k : Int) : Bool := decide (endAt E k ≤ u)
noncomputable def dueOf (E : List (Int × Int)) (u : Int) : List (Int × Int) := ((E.map (·.1)).filter (dueP E u)).map fun k => (endAt E k, k)
theorem dueOf_len {E : List (Int × Int)} {u : Int} : (dueOf E u).length ≤ E.length := by
  unfold dueOf
  rw [List.length_map]
  exact Nat.le_trans (List.length_filter_le ..) (by rw [List.length_map]; exact Nat.le_refl _)
noncomputable def stepD (E : List (Int × Int)) (u : Int) (acc : List (Int × Int)) : V → List (Int × Int)
  | .int k => if dueP E u k then acc ++ [(endAt E k, k)] else acc
  | _ => acc
theorem stepD_all {E : List (Int × Int)} {u : Int} : ∀ (ks : List Int) (acc : List (Int × Int)), (ks.map V.int).foldl (stepD E u) acc = acc ++ (ks.filter (dueP E u)).map fun k => (endAt E k, k) := by
  intro ks
  induction ks with
  | nil =>
    intro acc
    exact (List.append_nil _).symm
  | cons k ks ih =>
    intro acc
    show (ks.map V.int).foldl (stepD E u) (if dueP E u k then acc ++ [(endAt E k, k)] else acc) = _
    rw [ih]
    cases h : dueP E u k with
    | true => rw [if_pos rfl, List.filter_cons_of_pos h, List.append_assoc]; rfl
    | false => rw [if_neg Bool.false_ne_true, List.filter_cons_of_neg (by rw [h]; decide)]
theorem asPairs_of : ∀ (ps : List (Int × Int)), asPairs (ps.map pairV) = some ps := by
  intro ps
  induction ps with
  | nil =>
    exact rfl
  | cons _ ps ih =>
    exact (oO rfl).trans (oO (ih))
noncomputable def dueB : List S := [.ite (.cmp .le (.idx (.attr (.var 0) "ends") (.var 3)) (.var 1)) [.expr (.bmeth .append (.var 2) [(.tup [(.idx (.attr (.var 0) "ends") (.var 3)), (.var 3)])])] []]
section
variable {a : Fin 12 → Nat} {σ S : St} {r : Rm} {q : Qm} {n : Nat} {u : Int}
theorem sortedRF_at {i : Nat} {ps : List (Int × Int)} (h : S.get i = some (.list false (ps.map pairV))) (hl : ps.length < 64) : bfV (.sorted true false) [.ref i] S = some (.ok (.lst ((sortP ps).map pairV)), S) := by
  show onO (listAt S i) _ = _
  rw [listAt_of h]
  show onO (sortV true (ps.map pairV)) _ = _
  unfold sortV
  rw [if_pos (by rw [List.length_map]; exact hl)]
  show onO ((asPairs _).map _) _ = _
  rw [asPairs_of]; rfl
theorem endAt_lk {E : List (Int × Int)} {k : Int} (h : k ∈ E.map (·.1)) : lk (vI E) k = some (.int (endAt E k)) := by
  obtain ⟨v, hv⟩ := lk_key h
  unfold endAt
  rw [lk_vals, hv]; rfl
theorem keys_int {E : List (Int × Int)} : ((vI E).map fun kv => V.int kv.1) = (E.map (·.1)).map V.int := by unfold vI vals; rw [List.map_map, List.map_map]; rfl
theorem due_run (A : At σ a r q) (hb : r.E.length < 60) : ∃ S, run P (n + 1) false "Leases" "due" [.ref (a 1), .int u] [] σ = some (.ok (.lst ((sortP (dueOf r.E u)).map pairV)), S) ∧ Fr [] σ S := by
  have n1 : ∀ i, a i ≠ σ.n := fun i => Nat.ne_of_lt (A.lt i)
  have g : ∀ i, (σ.new (.list false [])).get (a i) = some (objs r q a i) := fun i => (get_new_lt (A.lt i)).trans (A.at_ i)
  obtain ⟨ρ', S, e, i0, i1, i2, i3, i4, i5⟩ := loop_fold (f := fun v ρ σ => execs P (run P n) false true dueB (upd ρ 3 v) σ) (stepD r.E u) (fun m acc ρ S => ρ 0 = some (.ref (a 1)) ∧ ρ 1 = some (.int u) ∧ ρ 2 = some (.ref σ.n) ∧ S.get σ.n = some (.list false (acc.map pairV)) ∧ (acc.length + m < 60 ∧ S.n = σ.n + 1) ∧ ∀ j, j ≠ σ.n → S.get j = (lockV (σ.new (.list false [])) (.ref (a 2))).get j)
    ((vI r.E).map fun kv => V.int kv.1) [] (upd (rhoOf [.ref (a 1), .int u]) 2 (.ref σ.n)) (lockV (σ.new (.list false [])) (.ref (a 2))) ⟨rfl, rfl, rfl, by rw [lock_di (g 2), get_set_ne (n1 2).symm]; exact get_new_eq, ⟨by show 0 + _ < 60; rw [List.length_map, len_vals]; lia, by rw [lock_di (g 2)]; rfl⟩, fun _ _ => rfl⟩ fun v hv m acc ρ S ⟨i0, i1, i2, i3, i4, i5⟩ => by
    rw [keys_int] at hv
    obtain ⟨k, hk, rfl⟩ := List.mem_map.mp hv
    have s0 : S.get (a 1) = some (objs r q a 1) := by rw [i5 _ (n1 1), lock_di (g 2), get_set_ne (A.ne (by decide))]; exact g 1
    have s1 : S.get (a 2) = some (.di true (vI r.E)) := by rw [i5 _ (n1 2), lock_di (g 2)]; exact get_set_eq
    have eA : ∀ {ρ : Rho}, ρ 0 = some (.ref (a 1)) → Ev (Mh n) ρ S (.attr (.var 0) "ends") (.ref (a 2)) S := fun q => .attr (.var q) (attr_at s0 rfl)
    have hc : Ev (Mh n) (upd ρ 3 (.int k)) S (.cmp .le (.idx (.attr (.var 0) "ends") (.var 3)) (.var 1)) (.bool (dueP r.E u k)) S := .cmp (.idx (eA i0) (.var rfl) (item_di s1 (endAt_lk hk))) (.var i1) rfl
    cases hp : dueP r.E u k with
    | true =>
      rw [hp] at hc
      have es : stepD r.E u acc (.int k) = acc ++ [(endAt r.E k, k)] := if_pos hp
      rw [es]
      have hap : bmV .append (.ref σ.n) [.tup [.int (endAt r.E k), .int k]] S = some (.ok .none, S.set σ.n (.list false ((acc ++ [(endAt r.E k, k)]).map pairV))) := (append_at i3 (by rw [List.length_map]; unfold lim; lia)).trans (by rw [List.map_append]; rfl)
      refine ⟨upd ρ 3 (.int k), S.set σ.n (.list false ((acc ++ [(endAt r.E k, k)]).map pairV)), Ex.iteT (M := Mh n) hc rfl (.expr (.bmeth (.var i2) (pre_list i3 rfl) (.cons (.tup (.cons (.idx (eA i0) (.var rfl) (item_di s1 (endAt_lk hk))) (.cons (.var rfl) .nil)) lim2) .nil) rfl hap) .nil), i0, i1, i2, get_set_eq, ⟨by rw [List.length_append]; show acc.length + 1 + m < 60; lia, i4.2⟩, fun j hj => (get_set_ne hj).trans (i5 j hj)⟩
    | false =>
      rw [hp] at hc
      have es : stepD r.E u acc (.int k) = acc := if_neg (by rw [hp]; decide)
      rw [es]
      exact ⟨upd ρ 3 (.int k), S, Ex.iteF (M := Mh n) hc rfl .nil, i0, i1, i2, i3, ⟨by lia, i4.2⟩, i5⟩
  rw [keys_int, stepD_all, List.nil_append] at i3
  have e6 : unlockV (σ.new (.list false [])) (.ref (a 2)) S = S.set (a 2) (.di false (vI r.E)) := unlock_di (g 2)
  have g6 : (S.set (a 2) (.di false (vI r.E))).get σ.n = some (.list false ((dueOf r.E u).map pairV)) := (get_set_ne (n1 2).symm).trans i3
  refine ⟨_, call_at rfl rfl rfl (.assign (.listM .nil (Nat.zero_le _)) (.for1 rfl (.attr (.var rfl) (attr_at (g 1) rfl)) (items_di (g 2)) e (.ret (.bcall (.cons (.var i2) .nil) rfl (by rw [e6]; exact sortedRF_at g6 (Nat.lt_of_le_of_lt dueOf_len (by lia))))))), ?_⟩
  refine ⟨by show σ.n ≤ S.n; lia, fun j hj _ => ?_⟩
  by_cases q : j = a 2
  · rw [q]; exact get_set_eq.trans (A.at_ 2).symm
  · rw [get_set_ne q, i5 j (Nat.ne_of_lt hj), lock_di (g 2), get_set_ne q]; exact get_new_lt hj
noncomputable def rRenew (r : Rm) (h x : Int) : Rm := { r with E := st r.E h (r.now + x) }
theorem renew_run {h v x : Int} (A : At σ a r q) (hE : r.E.length < lim) (hv : lk r.E h = some v) (hx : lk r.Ls h = some x) : ∃ S, run P (n + 3) false "Room" "renew" [.ref (a 0), .int h] [] σ = some (.ok .none, S) ∧ At S a (rRenew r h x) q ∧ FrA a σ S := by
  have e : run P (n + 2) false "Leases" "renew" [.ref (a 1), .int r.now, .int h] [] σ = some (.ok .none, setA σ a [(2, .di false (vI (st r.E h (r.now + x))))]) :=
    call_at0 rfl rfl rfl (.expr (.mcall (.var rfl) (meth_at (A.at_ 1) rfl) (.cons (.var rfl) .nil) .nil (need_ok A hv))
      (.setidx (.add (.var rfl) (.idx (.attr (.var rfl) (attr_at (A.at_ 1) rfl)) (.var rfl) (item_di (A.at_ 3) (by rw [lk_vals, hx]; rfl)))) (.attr (.var rfl) (attr_at (A.at_ 1) rfl)) (.var rfl) ((put_di (A.at_ 2) (by rw [len_vals]; exact hE)).trans (by rw [st_vals]; rfl)) .nil))
  exact ⟨_, call_at0 rfl rfl rfl (.expr (.mcall (.attr (.var rfl) (attr_at (A.at_ 0) rfl)) (meth_at (A.at_ 1) rfl) (.cons (.attr (.var rfl) (attr_at (A.at_ 0) rfl)) (.cons (.var rfl) .nil)) .nil e) .nil),
    A.sets _ (forall12 rfl rfl rfl rfl rfl rfl rfl rfl rfl rfl rfl rfl), FrA.sets _ _⟩
theorem renew_no {h : Int} (A : At σ a r q) (hv : lk r.E h = none) : run P (n + 3) false "Room" "renew" [.ref (a 0), .int h] [] σ = some (.exc "NoLease", σ) :=
  have e : run P (n + 2) false "Leases" "renew" [.ref (a 1), .int r.now, .int h] [] σ = some (.exc "NoLease", σ) := call_atX rfl rfl rfl (.exprX (.mcall (.var rfl) (meth_at (A.at_ 1) rfl) (.cons (.var rfl) .nil) .nil (need_no A hv)))
  call_atX rfl rfl rfl (.exprX (.mcall (.attr (.var rfl) (attr_at (A.at_ 0) rfl)) (meth_at (A.at_ 1) rfl) (.cons (.attr (.var rfl) (attr_at (A.at_ 0) rfl)) (.cons (.var rfl) .nil)) .nil e))
theorem wdR {M : Mc} {ρ : Rho} {y : Str} {b : Bool} {h : Int} (h1 : ρ 1 = some (dv (.renew h))) (hb : (Str.ofString "renew" == y) = b) : Ev M ρ σ (.cmp .eq (.idx (.var 1) (.cInt 0)) (.cStr y)) (.bool b) σ := wd h1 hb
theorem wdW {M : Mc} {ρ : Rho} {y : Str} {b : Bool} {h : Int} (h1 : ρ 1 = some (dv (.wait h))) (hb : (Str.ofString "wait" == y) = b) : Ev M ρ σ (.cmp .eq (.idx (.var 1) (.cInt 0)) (.cStr y)) (.bool b) σ := wd h1 hb
theorem call_renew {h : Int} {v : V} (A : At σ a r q) (e : run P (n + 1) false "Room" "renew" [.ref (a 0), .int h] [] σ = some (.ok v, S)) : run P (n + 2) false "" "_law_call" [.ref (a 0), dv (.renew h)] [] σ = some (.ok v, S) :=
  call_at rfl rfl rfl (.iteF (wdR rfl (by decide +kernel)) rfl (.iteF (wdR rfl (by decide +kernel)) rfl (.iteT (wdR rfl (by decide +kernel)) rfl (.ret (.mcall (.var rfl) (meth_at (A.at_ 0) rfl) (.cons (.idx (.var rfl) .cInt rfl) .nil) .nil e)))))
theorem call_renewX {h : Int} {c : String} (A : At σ a r q) (e : run P (n + 1) false "Room" "renew" [.ref (a 0), .int h] [] σ = some (.exc c, S)) : run P (n + 2) false "" "_law_call" [.ref (a 0), dv (.renew h)] [] σ = some (.exc c, S) :=
  call_atX rfl rfl rfl (.iteF (wdR rfl (by decide +kernel)) rfl (.iteF (wdR rfl (by decide +kernel)) rfl (.iteT (wdR rfl (by decide +kernel)) rfl (.retX (.mcall (.var rfl) (meth_at (A.at_ 0) rfl) (.cons (.idx (.var rfl) .cInt rfl) .nil) .nil e)))))
theorem call_wait {h : Int} {v : V} (A : At σ a r q) (e : run P (n + 1) false "Room" "wait" [.ref (a 0), .int h] [] σ = some (.ok v, S)) : run P (n + 2) false "" "_law_call" [.ref (a 0), dv (.wait h)] [] σ = some (.ok v, S) :=
  call_at rfl rfl rfl (.iteF (wdW rfl (by decide +kernel)) rfl (.iteT (wdW rfl (by decide +kernel)) rfl (.ret (.mcall (.var rfl) (meth_at (A.at_ 0) rfl) (.cons (.idx (.var rfl) .cInt rfl) .nil) .nil e))))
theorem call_waitX {h : Int} {c : String} (A : At σ a r q) (e : run P (n + 1) false "Room" "wait" [.ref (a 0), .int h] [] σ = some (.exc c, S)) : run P (n + 2) false "" "_law_call" [.ref (a 0), dv (.wait h)] [] σ = some (.exc c, S) :=
  call_atX rfl rfl rfl (.iteF (wdW rfl (by decide +kernel)) rfl (.iteT (wdW rfl (by decide +kernel)) rfl (.retX (.mcall (.var rfl) (meth_at (A.at_ 0) rfl) (.cons (.idx (.var rfl) .cInt rfl) .nil) .nil e))))
end
end Lw.L09
namespace Lw.L09
open PySem
noncomputable abbrev watO (p : Str) (t h : Int) : O := .inst "Watcher" [("prefix", .str p), ("told", .int t), ("had", .int h)]
noncomputable def wantB : List S := [.ite (.cmp .ge (.bcall .len [(.var 4)]) (.var 3)) [.ret (.var 4)] [], .ite (.bool true [(.cmp .gt (.idx (.var 5) (.cInt 0)) (.var 2)), (.bmeth .startswith (.idx (.var 5) (.cInt 3)) [(.var 1)])]) [.expr (.bmeth .append (.var 4) [(.var 5)])] []]
theorem want_loop {n t : Nat} {p : Str} {b : Int} {m : Nat} : ∀ (rs acc : List V) (ρ : Rho) (σ : St), (∀ v ∈ rs, IsRow v) → ρ 1 = some (.str p) → ρ 2 = some (.int b) → ρ 3 = some (.int m) → ρ 4 = some (.ref t) → σ.get t = some (.list false acc) → acc.length + rs.length < lim →
    ∃ ρ' σ', (loop (fun v ρ σ => execs P (run P n) false true wantB (upd ρ 5 v) σ) rs ρ σ = some (.ret (.ref t), ρ', σ') ∨ (loop (fun v ρ σ => execs P (run P n) false true wantB (upd ρ 5 v) σ) rs ρ σ = some (.next, ρ', σ') ∧ ρ' 4 = some (.ref t))) ∧ σ'.get t = some (.list false (acc ++ (rs.filter (keepR p b)).take (m - acc.length))) ∧ σ'.n = σ.n ∧ ∀ j, j ≠ t → σ'.get j = σ.get j := by
  intro rs
  induction rs with
  | nil =>
    intro acc ρ σ _ _ _ _ h4 hg _
    exact ⟨ρ, σ, .inr ⟨rfl, h4⟩, by rw [List.filter_nil, List.take_nil, List.append_nil]; exact hg, rfl, fun _ _ => rfl⟩
  | cons v rs ih =>
    intro acc ρ σ hr h1 h2 h3 h4 hg hl
    obtain ⟨i, q, w, k, x, rfl⟩ := hr v (List.mem_cons_self ..)
    have c1 : Ev (Mh n) (upd ρ 5 (row i q w k x)) σ (.cmp .ge (.bcall .len [(.var 4)]) (.var 3)) (.bool (decide ((m : Int) ≤ acc.length))) σ := .cmp (.bcall (.cons (.var h4) .nil) rfl (len_ref hg)) (.var h3) rfl
    by_cases hm : m ≤ acc.length
    · rw [decide_eq_true (by lia)] at c1
      refine ⟨_, σ, .inl (loop_ret (Ex.iteT (M := Mh n) c1 rfl (.ret (.var h4)))), ?_, rfl, fun _ _ => rfl⟩
      rw [show m - acc.length = 0 by lia, List.take_zero, List.append_nil]; exact hg
    · rw [decide_eq_false (by lia)] at c1
      have c2 : Ev (Mh n) (upd ρ 5 (row i q w k x)) σ (.bool true [(.cmp .gt (.idx (.var 5) (.cInt 0)) (.var 2)), (.bmeth .startswith (.idx (.var 5) (.cInt 3)) [(.var 1)])]) (.bool (keepR p b (row i q w k x))) σ := .and2 (.cmp (.idx (.var rfl) .cInt rfl) (.var h2) rfl) (.bmeth (.idx (.var rfl) .cInt rfl) rfl (.cons (.var h1) .nil) rfl rfl)
      rw [List.length_cons] at hl
      have hr' : ∀ v ∈ rs, IsRow v := fun v hv => hr v (List.mem_cons_of_mem _ hv)
      rw [← take_step (f := keepR p b) (show acc.length < m by lia)]
      cases hk : keepR p b (row i q w k x) with
      | true =>
        rw [hk] at c2
        rw [if_pos rfl]
        have e1 : execs P (run P n) false true wantB (upd ρ 5 (row i q w k x)) σ = some (.next, upd ρ 5 (row i q w k x), σ.set t (.list false (acc ++ [row i q w k x]))) := Ex.iteF (M := Mh n) c1 rfl (.iteT c2 rfl (.expr (.bmeth (.var h4) (pre_list hg rfl) (.cons (.var rfl) .nil) rfl (append_at hg (by lia))) .nil))
        obtain ⟨ρ', σ', k1, k2, k3, k4⟩ := ih (acc ++ [row i q w k x]) (upd ρ 5 (row i q w k x)) (σ.set t (.list false (acc ++ [row i q w k x]))) hr' h1 h2 h3 h4 get_set_eq (by rw [List.length_append]; show acc.length + 1 + rs.length < lim; lia)
        have e2 := loop_next (f := fun v ρ σ => execs P (run P n) false true wantB (upd ρ 5 v) σ) (xs := rs) e1
        exact ⟨ρ', σ', by rw [e2]; exact k1, k2, k3, fun j hj => (k4 j hj).trans (get_set_ne hj)⟩
      | false =>
        rw [hk] at c2
        rw [if_neg Bool.false_ne_true]
        have e1 : execs P (run P n) false true wantB (upd ρ 5 (row i q w k x)) σ = some (.next, upd ρ 5 (row i q w k x), σ) := Ex.iteF (M := Mh n) c1 rfl (.iteF c2 rfl .nil)
        obtain ⟨ρ', σ', k1, k2, k3, k4⟩ := ih acc (upd ρ 5 (row i q w k x)) σ hr' h1 h2 h3 h4 hg (by lia)
        have e2 := loop_next (f := fun v ρ σ => execs P (run P n) false true wantB (upd ρ 5 v) σ) (xs := rs) e1
        exact ⟨ρ', σ', by rw [e2]; exact k1, k2, k3, k4⟩
section
variable {a : Fin 12 → Nat} {σ : St} {r : Rm} {q : Qm} {n : Nat}
theorem want_run {p : Str} {b : Int} {m : Nat} (A : At σ a r q) (hr : ∀ v ∈ r.R, IsRow v) (hb : r.R.length < lim) : ∃ S, run P (n + 1) false "Log" "wanted" [.ref (a 4), .str p, .int b, .int m] [] σ = some (.ok (.ref σ.n), S) ∧ S.get σ.n = some (.list false ((r.R.filter (keepR p b)).take m)) ∧ Fr [] σ S ∧ S.n = σ.n + 1 := by
  have n1 : ∀ i, a i ≠ σ.n := fun i => Nat.ne_of_lt (A.lt i)
  have g : ∀ i, (σ.new (.list false [])).get (a i) = some (objs r q a i) := fun i => (get_new_lt (A.lt i)).trans (A.at_ i)
  obtain ⟨ρ', S, e, i1, i2, i3⟩ := want_loop (n := n) (t := σ.n) (p := p) (b := b) (m := m) r.R [] (upd (rhoOf [.ref (a 4), .str p, .int b, .int m]) 4 (.ref σ.n)) (lockV (σ.new (.list false [])) (.ref (a 5))) hr rfl rfl rfl rfl (by rw [lock_ref (g 5), get_set_ne (n1 5).symm]; exact get_new_eq) (by rw [List.length_nil, Nat.zero_add]; exact hb)
  have e6 : unlockV (σ.new (.list false [])) (.ref (a 5)) S = S.set (a 5) (.list false r.R) := unlock_ref (g 5)
  have iN : S.n = σ.n + 1 := i2.trans (by rw [lock_ref (g 5)]; rfl)
  have fr : Fr [] σ (S.set (a 5) (.list false r.R)) := by
    refine ⟨by show σ.n ≤ S.n; lia, fun j hj _ => ?_⟩
    by_cases q : j = a 5
    · rw [q]; exact get_set_eq.trans (A.at_ 5).symm
    · rw [get_set_ne q, i3 j (Nat.ne_of_lt hj), lock_ref (g 5), get_set_ne q]; exact get_new_lt hj
  have gf : (S.set (a 5) (.list false r.R)).get σ.n = some (.list false ((r.R.filter (keepR p b)).take m)) := (get_set_ne (n1 5).symm).trans i1
  refine ⟨S.set (a 5) (.list false r.R), ?_, gf, fr, iN⟩
  rcases e with e | ⟨e, i4⟩
  · exact call_at rfl rfl rfl (.assign (.listM .nil (Nat.zero_le _)) (by rw [← e6]; exact .for1R rfl (.attr (.var rfl) (attr_at (g 4) rfl)) (items_ref (g 5)) e))
  · exact call_at rfl rfl rfl (.assign (.listM .nil (Nat.zero_le _)) (.for1 rfl (.attr (.var rfl) (attr_at (g 4) rfl)) (items_ref (g 5)) e (by rw [e6]; exact .ret (.var i4))))
theorem first_run (A : At σ a r q) : run P (n + 2) false "Room" "first" [.ref (a 0)] [] σ = some (.ok (.int (r.old.length + 1)), σ) :=
  have e : run P (n + 1) false "Log" "first" [.ref (a 4)] [] σ = some (.ok (.int (r.old.length + 1)), σ) := call_at rfl rfl rfl (.ret (.add (.attr (.var rfl) (attr_at (A.at_ 4) rfl)) .cInt))
  call_at rfl rfl rfl (.ret (.mcall (.attr (.var rfl) (attr_at (A.at_ 0) rfl)) (meth_at (A.at_ 4) rfl) .nil .nil e))
theorem rlast_run (A : At σ a r q) : run P (n + 2) false "Room" "last" [.ref (a 0)] [] σ = some (.ok (.int r.last), σ) :=
  call_at rfl rfl rfl (.ret (.mcall (.attr (.var rfl) (attr_at (A.at_ 0) rfl)) (meth_at (A.at_ 4) rfl) .nil .nil (last_run A)))
theorem winit_run {i : Nat} {p : Str} {s : Int} (h : σ.get i = some (.inst "Watcher" [])) : run P (n + 1) false "Watcher" "__init__" [.ref i, .str p, .int s] [] σ = some (.ok .none, σ.set i (watO p (s - 1) (s - 1))) := by
  have e : ((σ.set i (.inst "Watcher" [("prefix", .str p)])).set i (.inst "Watcher" [("prefix", .str p), ("told", .int (s - 1))])).set i (watO p (s - 1) (s - 1)) = σ.set i (watO p (s - 1) (s - 1)) := by rw [set_set, set_set]
  rw [← e]
  exact call_at0 rfl rfl rfl (.setattr (.var rfl) (.var rfl) (setattr_at h (by decide)) (.setattr (.sub (.var rfl) .cInt) (.var rfl) (setattr_at get_set_eq (show (1 : Nat) < 100 by decide)) (.setattr (.sub (.var rfl) .cInt) (.var rfl) (setattr_at get_set_eq (show (2 : Nat) < 100 by decide)) .nil)))
noncomputable def rWatch (r : Rm) (w : Nat) : Rm := { r with wn := r.wn + 1, ws := Lw.st r.ws ((r.wn : Int) + 1) (.ref w) }
theorem watch_run {p : Str} {s : Int} (A : At σ a r q) (hw : r.ws.length < lim) (h1 : ¬ s < (r.old.length : Int) + 1) (h2 : ¬ (r.last : Int) + 1 < s) : ∃ S, run P (n + 3) false "Room" "watch" [.ref (a 0), .str p, .int s] [] σ = some (.ok (.int (r.wn + 1)), S) ∧ At S a (rWatch r σ.n) q ∧ S.get σ.n = some (watO p (s - 1) (s - 1)) ∧ FrA a σ S ∧ S.n = σ.n + 1 := by
  have n1 : ∀ i, σ.n ≠ a i := fun i => Nat.ne_of_gt (A.lt i)
  have A1 : At (setA σ a [(0, roomO r.now (a 1) (a 4) (a 6) (a 7) (r.wn + 1) (a 8))]) a { r with wn := r.wn + 1 } q := A.sets _ (forall12 rfl rfl rfl rfl rfl rfl rfl rfl rfl rfl rfl rfl)
  have f1 : Fr [] (σ.set (a 0) (roomO r.now (a 1) (a 4) (a 6) (a 7) (r.wn + 1) (a 8))) (((σ.set (a 0) (roomO r.now (a 1) (a 4) (a 6) (a 7) (r.wn + 1) (a 8))).new (.inst "Watcher" [])).set σ.n (watO p (s - 1) (s - 1))) := Fr.set (Fr.new Fr.refl) (.inr (Nat.le_refl _))
  have A2 := A1.fr f1
  have e1 : run P (n + 2) false "Watcher" "__init__" [.ref σ.n, .str p, .int s] [] ((σ.set (a 0) (roomO r.now (a 1) (a 4) (a 6) (a 7) (r.wn + 1) (a 8))).new (.inst "Watcher" [])) = some (.ok .none, ((σ.set (a 0) (roomO r.now (a 1) (a 4) (a 6) (a 7) (r.wn + 1) (a 8))).new (.inst "Watcher" [])).set σ.n (watO p (s - 1) (s - 1))) := winit_run (n := n + 1) get_new_eq
  have A3 : At (setA (((σ.set (a 0) (roomO r.now (a 1) (a 4) (a 6) (a 7) (r.wn + 1) (a 8))).new (.inst "Watcher" [])).set σ.n (watO p (s - 1) (s - 1))) a [(8, .di false (st r.ws (r.wn + 1) (.ref σ.n)))]) a (rWatch r σ.n) q := A2.sets _ (forall12 rfl rfl rfl rfl rfl rfl rfl rfl rfl rfl rfl rfl)
  refine ⟨_, call_at rfl rfl rfl (.iteF (.boolC (.cmp (.var rfl) (.mcall (.var rfl) (meth_at (A.at_ 0) rfl) .nil .nil (first_run (n := n) A)) (congrArg some (decide_eq_false h1))) rfl (.bool1 (.cmp (.var rfl) (.add (.mcall (.var rfl) (meth_at (A.at_ 0) rfl) .nil .nil (rlast_run (n := n) A)) .cInt) (congrArg some (decide_eq_false h2))))) rfl
    (.setattr (.add (.attr (.var rfl) (attr_at (A.at_ 0) rfl)) .cInt) (.var rfl) (setattr_at (A.at_ 0) (show (7 : Nat) < 100 by decide))
    (.setidx (.new (.cons (.var rfl) (.cons (.var rfl) .nil)) .nil e1) (.attr (.var rfl) (attr_at (A2.at_ 0) rfl)) (.attr (.var rfl) (attr_at (A2.at_ 0) rfl)) (put_di (A2.at_ 8) hw)
    (.ret (.attr (.var rfl) (attr_at (A3.at_ 0) rfl)))))), A3, (get_set_ne (n1 8)).trans get_set_eq, ⟨Nat.le_succ _, fun j hj ha => ?_⟩, rfl⟩
  exact (get_set_ne (ha 8)).trans ((f1.at_ j hj (fun q => nomatch q)).trans (get_set_ne (ha 0)))
theorem needw_run {k : Int} {v : V} (A : At σ a r q) (hv : lk r.ws k = some v) : run P (n + 1) false "Room" "need_watcher" [.ref (a 0), .int k] [] σ = some (.ok v, σ) :=
  call_at rfl rfl rfl (.iteF (.cmp (.var rfl) (.attr (.var rfl) (attr_at (A.at_ 0) rfl)) (notin_di (A.at_ 8))) (by rw [hv]; rfl) (.ret (.idx (.attr (.var rfl) (attr_at (A.at_ 0) rfl)) (.var rfl) (item_di (A.at_ 8) hv))))
noncomputable def toldTo (last : Nat) (t : Int) (found : List V) (m : Nat) : Int := if found.length < m then last else lastN t found
theorem last_idx {t : Nat} {vs : List V} {v : V} (h : σ.get t = some (.list false vs)) (hl : vs.getLast? = some v) (hb : vs.length < lim) : idxV σ (.ref t) (.int (-1)) = some v := by
  have hn : vs ≠ [] := fun e => by rw [e] at hl; cases hl
  obtain ⟨m, hm⟩ := Nat.exists_eq_succ_of_ne_zero fun z => hn (List.eq_nil_of_length_eq_zero z)
  show (σ.get t).bind (idxO (.int (-1))) = _
  rw [h]
  show (place (-1) vs.length).bind (vs[·]?) = _
  have e : place (-1) vs.length = some (vs.length - 1) := by
    have em : (-1 : Int) + ((m + 1 : Nat) : Int) = m := (Int.add_comm ..).trans (Int.add_neg_cancel_right m 1)
    unfold place
    rw [hm, if_pos (by decide), if_neg (by decide), em, if_pos (Int.natCast_nonneg _)]; rfl
  rw [e]
  show vs[vs.length - 1]? = _
  rw [← List.getLast?_eq_getElem?]; exact hl
theorem pull_run {k t h : Int} {p : Str} {w m : Nat} (A : At σ a r q) (hr : ∀ v ∈ r.R, IsRow v) (hb : r.R.length < lim) (hv : lk r.ws k = some (.ref w)) (hw : σ.get w = some (watO p t h)) (hlt : w < σ.n) (ha : ∀ i, w ≠ a i) :
    ∃ S, run P (n + 3) false "Room" "pull" [.ref (a 0), .int k, .int m] [] σ = some (.ok (.ref σ.n), S) ∧ S.get σ.n = some (.list false ((r.R.filter (keepR p t)).take m)) ∧ S.get w = some (watO p (toldTo r.last t ((r.R.filter (keepR p t)).take m) m) h) ∧ At S a r q ∧ Fr [w] σ S ∧ S.n = σ.n + 1 := by
  obtain ⟨S, e, g1, f1, n1⟩ := want_run (n := n + 1) (p := p) (b := t) (m := m) A hr hb
  have A1 := A.fr f1
  have gw : S.get w = some (watO p t h) := (f1.at_ w hlt (fun q => nomatch q)).trans hw
  have hfl : ((r.R.filter (keepR p t)).take m).length < lim := Nat.lt_of_le_of_lt (Nat.le_trans (List.length_take_le' ..) (List.length_filter_le ..)) hb
  have hfr : ∀ v ∈ (r.R.filter (keepR p t)).take m, IsRow v := fun v hv => hr v (List.mem_filter.mp (List.mem_of_mem_take hv)).1
  generalize (r.R.filter (keepR p t)).take m = found at g1 hfl hfr ⊢
  have fin : ∀ x : Int, S.get σ.n = (S.set w (watO p x h)).get σ.n ∧ At (S.set w (watO p x h)) a r q ∧ Fr [w] σ (S.set w (watO p x h)) := fun x => ⟨(get_set_ne (Nat.ne_of_gt hlt)).symm, ⟨fun i => (get_set_ne (ha i).symm).trans (A1.at_ i), A.inj, A1.lt⟩, (f1.mono fun j hj => (nomatch hj)).set (.inl (List.mem_singleton.mpr rfl))⟩
  refine ⟨S.set w (watO p (toldTo r.last t found m) h), call_at (fn := f_Room_pull) (ρ := upd (upd (rhoOf [.ref (a 0), .int k, .int m]) 3 (.ref w)) 4 (.ref σ.n)) rfl rfl rfl (.assign (.mcall (.var rfl) (meth_at (A.at_ 0) rfl) (.cons (.var rfl) .nil) .nil (needw_run (n := n + 1) A hv))
    (.assign (.mcall (.attr (.var rfl) (attr_at (A.at_ 0) rfl)) (meth_at (A.at_ 4) rfl) (.cons (.attr (.var rfl) (attr_at hw rfl)) (.cons (.attr (.var rfl) (attr_at hw rfl)) (.cons (.var rfl) .nil))) .nil e) ?_)), (fin _).1 ▸ g1, get_set_eq, (fin _).2.1, (fin _).2.2, n1⟩
  have c1 : ∀ {b : Bool}, decide ((found.length : Int) < (m : Int)) = b → Ev (Mh (n + 2)) (upd (upd (rhoOf [.ref (a 0), .int k, .int m]) 3 (.ref w)) 4 (.ref σ.n)) S (.cmp .lt (.bcall .len [(.var 4)]) (.var 2)) (.bool b) S := fun hb => .cmp (.bcall (.cons (.var rfl) .nil) rfl (len_ref g1)) (.var rfl) (congrArg some hb)
  have c2 : ∀ {b : Bool}, decide ((0 : Int) < (found.length : Int)) = b → Ev (Mh (n + 2)) (upd (upd (rhoOf [.ref (a 0), .int k, .int m]) 3 (.ref w)) 4 (.ref σ.n)) S (.cmp .gt (.bcall .len [(.var 4)]) (.cInt 0)) (.bool b) S := fun hb => .cmp (.bcall (.cons (.var rfl) .nil) rfl (len_ref g1)) .cInt (congrArg some hb)
  unfold toldTo
  by_cases hm : found.length < m
  · rw [if_pos hm]
    exact .iteT (c1 (decide_eq_true (by lia))) rfl (.setattr (.mcall (.var rfl) (meth_at (A1.at_ 0) rfl) .nil .nil (rlast_run (n := n) A1)) (.var rfl) (setattr_at gw (show (3 : Nat) < 100 by decide)) (.ret (.var rfl)))
  · rw [if_neg hm]
    cases hl : found.getLast? with
    | none =>
      have he : found = [] := List.getLast?_eq_none_iff.mp hl
      subst he
      have : S.set w (watO p (lastN t []) h) = S := set_same gw
      rw [this]
      exact .iteF (c1 (decide_eq_false (by lia))) rfl (.iteF (c2 rfl) rfl (.ret (.var rfl)))
    | some v =>
      have hp : 0 < found.length := List.length_pos_iff.mpr fun e => by rw [e] at hl; cases hl
      obtain ⟨i, q', w', k', x, hv'⟩ := hfr v (List.mem_of_getLast? hl)
      have e2 : lastN t found = i := by unfold lastN; rw [hl, hv']; rfl
      rw [e2]
      exact .iteF (c1 (decide_eq_false (by lia))) rfl (.iteT (c2 (decide_eq_true (by lia))) rfl (.setattr (.idx (.idx (.var rfl) (.neg .cInt) (last_idx g1 hl hfl)) .cInt (by rw [hv']; rfl)) (.var rfl) (setattr_at gw (show (3 : Nat) < 100 by decide)) (.ret (.var rfl))))
theorem confirm_run {k t h : Int} {p : Str} {w : Nat} (A : At σ a r q) (hv : lk r.ws k = some (.ref w)) (hw : σ.get w = some (watO p t h)) : run P (n + 2) false "Room" "confirm" [.ref (a 0), .int k] [] σ = some (.ok .none, σ.set w (watO p t t)) :=
  call_at0 rfl rfl rfl (.assign (.mcall (.var rfl) (meth_at (A.at_ 0) rfl) (.cons (.var rfl) .nil) .nil (needw_run (n := n) A hv)) (.setattr (.attr (.var rfl) (attr_at hw rfl)) (.var rfl) (setattr_at hw (show (3 : Nat) < 100 by decide)) .nil))
theorem broken_run {k t h : Int} {p : Str} {w : Nat} (A : At σ a r q) (hv : lk r.ws k = some (.ref w)) (hw : σ.get w = some (watO p t h)) : run P (n + 2) false "Room" "broken" [.ref (a 0), .int k] [] σ = some (.ok .none, σ.set w (watO p h h)) :=
  call_at0 rfl rfl rfl (.assign (.mcall (.var rfl) (meth_at (A.at_ 0) rfl) (.cons (.var rfl) .nil) .nil (needw_run (n := n) A hv)) (.setattr (.attr (.var rfl) (attr_at hw rfl)) (.var rfl) (setattr_at hw (show (3 : Nat) < 100 by decide)) .nil))
end
end Lw.L09
namespace Lw.L09
open PySem
noncomputable def mn (a b : Int) : Int := if b < a then b else a
theorem mn_le {a b : Int} : mn a b ≤ a ∧ mn a b ≤ b := by unfold mn; split <;> lia
theorem le_mn {a b c : Int} (h : c ≤ a) (k : c ≤ b) : c ≤ mn a b := by unfold mn; split <;> lia
noncomputable def minAll (W : List (Int × Int)) (u : Int) : Int := W.foldl (fun u kh => mn u kh.2) u
theorem minAll_le : ∀ (W : List (Int × Int)) (u : Int), minAll W u ≤ u ∧ ∀ kh ∈ W, minAll W u ≤ kh.2 := by
  intro W
  induction W with
  | nil =>
    intro u
    exact ⟨Int.le_refl _, fun _ h => nomatch h⟩
  | cons kh W ih =>
    intro u
    obtain ⟨h1, h2⟩ := ih (mn u kh.2)
    have := mn_le (a := u) (b := kh.2)
    refine ⟨Int.le_trans h1 this.1, fun x hx => ?_⟩
    rcases List.mem_cons.mp hx with rfl | hx
    · exact Int.le_trans h1 this.2
    · exact h2 x hx
theorem le_minAll {c : Int} : ∀ (W : List (Int × Int)) (u : Int), c ≤ u → (∀ kh ∈ W, c ≤ kh.2) → c ≤ minAll W u := by
  intro W
  induction W with
  | nil =>
    intro _ h _
    exact h
  | cons kh W ih =>
    intro u h k
    exact ih (mn u kh.2) (le_mn h (k kh (List.mem_cons_self ..))) fun x hx => k x (List.mem_cons_of_mem _ hx)
noncomputable def rTrim (r : Rm) (m : Nat) : Rm := { r with old := r.old ++ r.R.take m, R := r.R.drop m }
theorem rTrim_H {r : Rm} {m : Nat} : (rTrim r m).H = r.H := by
  show (r.old ++ r.R.take m) ++ r.R.drop m = r.old ++ r.R
  rw [List.append_assoc, List.take_append_drop]
noncomputable def upd5 (a : Fin 12 → Nat) (x : Nat) : Fin 12 → Nat := fun i => if i = 5 then x else a i
section
variable {a : Fin 12 → Nat} {σ : St} {r : Rm} {q : Qm} {n : Nat}
noncomputable def WsAt (σ : St) (r : Rm) (W : List (Int × Int)) : Prop := r.ws.map (fun kv => V.int kv.1) = W.map (fun kh => V.int kh.1) ∧ ∀ kh ∈ W, ∃ w p t, lk r.ws kh.1 = some (.ref w) ∧ σ.get w = some (watO p t kh.2)
noncomputable def trimB : List S := [.assign 1 (.bcall .min [(.var 1), (.attr (.idx (.attr (.var 0) "watchers") (.var 2)) "had")])]
theorem trim_loop (A : At σ a r q) : ∀ (W : List (Int × Int)) (u : Int) (ρ : Rho), (∀ kh ∈ W, ∃ w p t, lk r.ws kh.1 = some (.ref w) ∧ σ.get w = some (watO p t kh.2)) → ρ 0 = some (.ref (a 0)) → ρ 1 = some (.int u) →
    ∃ ρ', loop (fun v ρ σ => execs P (run P n) false true trimB (upd ρ 2 v) σ) (W.map fun kh => V.int kh.1) ρ (lockV σ (.ref (a 8))) = some (.next, ρ', lockV σ (.ref (a 8))) ∧ ρ' 0 = some (.ref (a 0)) ∧ ρ' 1 = some (.int (minAll W u)) := by
  intro W
  induction W with
  | nil =>
    intro u ρ _ h0 h1
    exact ⟨ρ, rfl, h0, h1⟩
  | cons kh W ih =>
    intro u ρ hW h0 h1
    obtain ⟨w, p, t, k1, k2⟩ := hW kh (List.mem_cons_self ..)
    have l0 : (lockV σ (.ref (a 8))).get (a 0) = some (objs r q a 0) := by rw [lock_di (A.at_ 8), get_set_ne (A.ne (by decide))]; exact A.at_ 0
    have l8 : (lockV σ (.ref (a 8))).get (a 8) = some (.di true r.ws) := by rw [lock_di (A.at_ 8)]; exact get_set_eq
    have lw : (lockV σ (.ref (a 8))).get w = some (watO p t kh.2) := by
      rw [lock_di (A.at_ 8), get_set_ne fun e => by rw [e, A.at_ 8] at k2; cases k2]; exact k2
    have e1 : execs P (run P n) false true trimB (upd ρ 2 (.int kh.1)) (lockV σ (.ref (a 8))) = some (.next, upd (upd ρ 2 (.int kh.1)) 1 (.int (mn u kh.2)), lockV σ (.ref (a 8))) :=
      Ex.assign (M := Mh n) (.bcall (.cons (.var h1) (.cons (.attr (.idx (.attr (.var h0) (attr_at l0 rfl)) (.var rfl) (item_di l8 k1)) (attr_at lw rfl)) .nil)) rfl rfl) .nil
    obtain ⟨ρ', e, j0, j1⟩ := ih (mn u kh.2) (upd (upd ρ 2 (.int kh.1)) 1 (.int (mn u kh.2))) (fun x hx => hW x (List.mem_cons_of_mem _ hx)) h0 rfl
    exact ⟨ρ', (loop_next (f := fun v ρ σ => execs P (run P n) false true trimB (upd ρ 2 v) σ) e1).trans e, j0, j1⟩
theorem cut_drop {α : Type} {vs : List α} {m : Nat} : cutL vs (min m vs.length) vs.length = vs.drop m := by
  unfold cutL
  rw [List.take_of_length_le (Nat.le_refl _)]
  by_cases q : m ≤ vs.length
  · rw [Nat.min_eq_left q]
  · have q := Nat.le_of_lt (Nat.lt_of_not_le q)
    rw [Nat.min_eq_right q, List.drop_of_length_le (Nat.le_refl _), List.drop_of_length_le q]
theorem slice_from {t m : Nat} {vs : List V} (h : σ.get t = some (.list false vs)) : sliceV true (.ref t) (.int m) .none σ = some (.ok (.ref σ.n), σ.new (.list false (vs.drop m))) := by
  show onO (listAt σ t) _ = _
  rw [listAt_of h]
  show onO (clamp 0 (.int m) vs.length) (fun b => some (Res.ok (V.ref σ.n), σ.new (.list false (cutL vs b vs.length)))) = _
  rw [clamp_nat]; exact congrArg (fun l => some (Res.ok (V.ref σ.n), σ.new (.list false l))) cut_drop
theorem forget_run {u : Int} (A : At σ a r q) (h0 : (r.old.length : Int) ≤ u) (h1 : u ≤ r.last) : ∃ S a', run P (n + 2) false "Log" "forget" [.ref (a 4), .int u] [] σ = some (.ok (.int (u - r.old.length)), S) ∧ At S a' (rTrim r (u - r.old.length).toNat) q ∧ FrA a σ S ∧ (∀ i, i ≠ 5 → a' i = a i) ∧ (a' 5 = a 5 ∨ a' 5 = σ.n) := by
  have hm : (if (r.last : Int) < u then (r.last : Int) else u) = u := if_neg (by lia)
  have emin : Ev (Mh (n + 1)) (rhoOf [.ref (a 4), .int u]) σ (.bin .sub (.bcall .min [(.var 1), (.mcall (.var 0) "last" [] [] [])]) (.attr (.var 0) "gone")) (.int (u - r.old.length)) σ := by
    have e1 : Ev (Mh (n + 1)) (rhoOf [.ref (a 4), .int u]) σ (.bcall .min [(.var 1), (.mcall (.var 0) "last" [] [] [])]) (.int u) σ := .bcall (.cons (.var rfl) (.cons (.mcall (.var rfl) (meth_at (A.at_ 4) rfl) .nil .nil (last_run (n := n) A)) .nil)) rfl (by
      show some (Res.ok (V.int (if (r.last : Int) < u then (r.last : Int) else u)), σ) = _
      rw [hm])
    exact .sub e1 (.attr (.var rfl) (attr_at (A.at_ 4) rfl))
  by_cases hz : u - r.old.length ≤ 0
  · have e0 : u - r.old.length = 0 := by lia
    refine ⟨σ, a, call_at rfl rfl rfl (.assign emin (.iteT (.cmp (.var rfl) .cInt (congrArg some (decide_eq_true hz))) rfl (.ret ?_))), A.conv (forall12 rfl rfl rfl rfl ?_ ?_ rfl rfl rfl rfl rfl rfl), .refl, fun _ _ => rfl, .inl rfl⟩
    · rw [e0]; exact .cInt
    · show logO r.old.length (a 5) = logO ((r.old ++ r.R.take (u - r.old.length).toNat).length : Nat) (a 5)
      rw [e0]; show logO r.old.length (a 5) = logO ((r.old ++ []).length : Nat) (a 5); rw [List.append_nil]
    · show O.list false r.R = O.list false (r.R.drop (u - r.old.length).toNat)
      rw [e0]; rfl
  · have hk : ((u - r.old.length).toNat : Int) = u - r.old.length := by lia
    generalize hk2 : (u - r.old.length).toNat = m at hk
    have hla : (r.last : Int) = (r.old.length : Int) + (r.R.length : Int) := Int.natCast_add ..
    have hmR : m ≤ r.R.length := by lia
    rw [← hk] at emin ⊢
    have n1 : ∀ i, σ.n ≠ a i := fun i => Nat.ne_of_gt (A.lt i)
    have A1 : At (σ.new (.list false (r.R.drop m))) a r q := A.fr (Fr.new Fr.refl)
    have inj' : ∀ i j, upd5 a σ.n i = upd5 a σ.n j → i = j := fun i j h => by
      unfold upd5 at h
      by_cases e1 : i = 5
      · by_cases e2 : j = 5
        · rw [e1, e2]
        · rw [if_pos e1, if_neg e2] at h; exact absurd h (n1 j)
      · by_cases e2 : j = 5
        · rw [if_neg e1, if_pos e2] at h; exact absurd h.symm (n1 i)
        · rw [if_neg e1, if_neg e2] at h; exact A.inj i j h
    have g4 : ((σ.new (.list false (r.R.drop m))).set (a 4) (logO r.old.length σ.n)).get (a 4) = some (logO r.old.length σ.n) := get_set_eq
    refine ⟨((σ.new (.list false (r.R.drop m))).set (a 4) (logO r.old.length σ.n)).set (a 4) (logO ((r.old.length : Int) + m) σ.n), upd5 a σ.n, call_at rfl rfl rfl (.assign emin (.iteF (.cmp (.var rfl) .cInt (congrArg some (decide_eq_false (by lia)))) rfl
      (.setattr (.slice (.attr (.var rfl) (attr_at (A.at_ 4) rfl)) (.var rfl) .cNone (slice_from (A.at_ 5))) (.var rfl) (setattr_at (A1.at_ 4) (show (2 : Nat) < 100 by decide))
      (.setattr (.add (.attr (.var rfl) (attr_at g4 rfl)) (.var rfl)) (.var rfl) (setattr_at g4 (show (2 : Nat) < 100 by decide))
      (.ret (.var rfl)))))), ⟨fun i => ?_, inj', fun i => ?_⟩, ⟨Nat.le_succ _, fun j hj ha => ?_⟩, fun i hi => if_neg hi, .inr (if_pos rfl)⟩
    · rw [set_set]
      have hlen : ((r.old.length : Int) + m) = ((r.old ++ r.R.take m).length : Nat) := by rw [List.length_append, List.length_take, Nat.min_eq_left hmR]; rfl
      rw [hlen]
      revert i
      have oth : ∀ j : Fin 12, j ≠ 5 → j ≠ 4 → ((σ.new (.list false (r.R.drop m))).set (a 4) (logO ((r.old ++ r.R.take m).length : Nat) σ.n)).get (upd5 a σ.n j) = some (objs r q a j) := fun j h5 h4 => by
        rw [show upd5 a σ.n j = a j from if_neg h5, get_set_ne (A.ne h4)]; exact A1.at_ j
      exact forall12 (oth 0 (by decide) (by decide)) (oth 1 (by decide) (by decide)) (oth 2 (by decide) (by decide)) (oth 3 (by decide) (by decide)) get_set_eq ((get_set_ne (n1 4)).trans get_new_eq) (oth 6 (by decide) (by decide)) (oth 7 (by decide) (by decide)) (oth 8 (by decide) (by decide)) (oth 9 (by decide) (by decide)) (oth 10 (by decide) (by decide)) (oth 11 (by decide) (by decide))
    · show (if i = 5 then σ.n else a i) < σ.n + 1
      split
      · exact Nat.lt_succ_self _
      · exact Nat.lt_succ_of_lt (A.lt i)
    · rw [set_set, get_set_ne (ha 4)]; exact get_new_lt hj
theorem trim_run {W : List (Int × Int)} (A : At σ a r q) (hW : WsAt σ r W) (h0 : ∀ kh ∈ W, (r.old.length : Int) ≤ kh.2) : ∃ S a', run P (n + 3) false "Room" "trim" [.ref (a 0)] [] σ = some (.ok (.int (minAll W r.last - r.old.length)), S) ∧ At S a' (rTrim r (minAll W r.last - r.old.length).toNat) q ∧ FrA a σ S ∧ (∀ i, i ≠ 5 → a' i = a i) ∧ (a' 5 = a 5 ∨ a' 5 = σ.n) := by
  obtain ⟨S, a', e, k⟩ := forget_run (n := n) (u := minAll W r.last) A (le_minAll W _ (by show (r.old.length : Int) ≤ ((r.old.length + r.R.length : Nat) : Int); lia) h0) (minAll_le W _).1
  obtain ⟨ρ', e1, j0, j1⟩ := trim_loop (n := n + 2) A W r.last (upd (rhoOf [.ref (a 0)]) 1 (.int r.last)) hW.2 rfl rfl
  refine ⟨S, a', call_at rfl rfl rfl (.assign (.mcall (.var rfl) (meth_at (A.at_ 0) rfl) .nil .nil (rlast_run (n := n) A)) (.forP rfl (.attr (.var rfl) (attr_at (A.at_ 0) rfl)) ((items_di (A.at_ 8)).trans (congrArg some hW.1)) e1 (relock_di (A.at_ 8)) (.ret (.mcall (.attr (.var j0) (attr_at (A.at_ 0) rfl)) (meth_at (A.at_ 4) rfl) (.cons (.var j1) .nil) .nil e)))), k⟩
end
end Lw.L09
namespace Lw.L09
open PySem
variable {σ : St}
noncomputable abbrev earO (T : Int) (r d : Nat) : O := .inst "Ear" [("taken", .int T), ("rows", .ref r), ("standing", .ref d)]
structure EarAt (σ : St) (e r d : Nat) (T : Int) (K : List V) (D : List (Str × V)) : Prop where
  e : σ.get e = some (earO T r d)
  r : σ.get r = some (.list false K)
  d : σ.get d = some (.ds false D)
theorem EarAt.keep {σ σ' : St} {e r d : Nat} {T : Int} {K : List V} {D : List (Str × V)} (h : EarAt σ e r d T K D) (k : ∀ j, j = e ∨ j = r ∨ j = d → σ'.get j = σ.get j) : EarAt σ' e r d T K D :=
  ⟨(k e (.inl rfl)).trans h.e, (k r (.inr (.inl rfl))).trans h.r, (k d (.inr (.inr rfl))).trans h.d⟩
structure Apart (e r d : Nat) : Prop where
  er : e ≠ r
  ed : e ≠ d
  rd : r ≠ d
theorem rowStep_len {D : List (Str × V)} {v : V} (hv : IsRow v) : (rowStep D v).length ≤ D.length + 1 := by
  obtain ⟨i, t, w, k, x, rfl⟩ := hv
  show (if w == putS then Lw.st D k (.str x) else if (lk D k).isSome then rm D k else D).length ≤ _
  split
  · exact st_len
  · split
    · exact Nat.le_succ_of_le rm_len
    · exact Nat.le_succ _
noncomputable def hearB : List S := [.ite (.cmp .gt (.idx (.var 2) (.cInt 0)) (.attr (.var 0) "taken")) [.expr (.bmeth .append (.attr (.var 0) "rows") [(.var 2)]), .setattr (.var 0) "taken" (.idx (.var 2) (.cInt 0)), .ite (.cmp .eq (.idx (.var 2) (.cInt 2)) (.cStr "put")) [.setidx (.attr (.var 0) "standing") (.idx (.var 2) (.cInt 3)) (.idx (.var 2) (.cInt 4))] [.ite (.cmp .isin (.idx (.var 2) (.cInt 3)) (.attr (.var 0) "standing")) [.expr (.bmeth .pop (.attr (.var 0) "standing") [(.idx (.var 2) (.cInt 3))])] []]] []]
theorem hear_loop {n e r d : Nat} {T : Int} {K B : List V} {D : List (Str × V)} {ρ : Rho} (A : Apart e r d) (hE : EarAt σ e r d T K D) (h0 : ρ 0 = some (.ref e)) (hB : ∀ v ∈ B, IsRow v) (hK : K.length + B.length < lim) (hD : D.length + B.length < lim) :
    ∃ ρ' S, loop (fun v ρ σ => execs P (run P n) false true hearB (upd ρ 2 v) σ) B ρ σ = some (.next, ρ', S) ∧ ρ' 0 = some (.ref e) ∧ EarAt S e r d (B.foldl earStep (T, K, D)).1 (B.foldl earStep (T, K, D)).2.1 (B.foldl earStep (T, K, D)).2.2 ∧ S.n = σ.n ∧ ∀ j, j ≠ e → j ≠ r → j ≠ d → S.get j = σ.get j := by
  obtain ⟨ρ', S, hloop, h0, hE', hn, hf, _⟩ := loop_fold (f := fun v ρ σ => execs P (run P n) false true hearB (upd ρ 2 v) σ)
    earStep (fun m s ρ S => ρ 0 = some (.ref e) ∧ EarAt S e r d s.1 s.2.1 s.2.2 ∧ S.n = σ.n ∧ (∀ j, j ≠ e → j ≠ r → j ≠ d → S.get j = σ.get j) ∧ s.2.2.length + m < lim ∧ s.2.1.length + m < lim) B (T, K, D) ρ σ ⟨h0, hE, rfl, fun _ _ _ _ => rfl, hD, hK⟩ fun v hv m s ρ S ⟨h0, hE, hn, hf, hD, hl⟩ => by
      have hr := hB v hv
      have hc : Ev (Mh n) (upd ρ 2 v) S (.cmp .gt (.idx (.var 2) (.cInt 0)) (.attr (.var 0) "taken")) (.bool (decide (s.1 < numR v))) S := by
        obtain ⟨i, t, w, k, x, rfl⟩ := hr
        exact .cmp (.idx (.var rfl) .cInt rfl) (.attr (.var h0) (attr_at hE.e rfl)) rfl
      by_cases q : s.1 < numR v
      · rw [decide_eq_true q] at hc
        have hsl := rowStep_len (D := s.2.2) hr
        have e1 : earStep s v = (numR v, s.2.1 ++ [v], rowStep s.2.2 v) := if_pos q
        rw [e1]
        obtain ⟨i, t, w, k, x, rfl⟩ := hr
        have g1 : (S.set r (.list false (s.2.1 ++ [row i t w k x]))).get e = some (earO s.1 r d) := (get_set_ne A.er).trans hE.e
        have g2 : ((S.set r (.list false (s.2.1 ++ [row i t w k x]))).set e (earO i r d)).get d = some (.ds false s.2.2) := (get_set_ne A.ed.symm).trans ((get_set_ne A.rd.symm).trans hE.d)
        refine ⟨upd ρ 2 (row i t w k x), ((S.set r (.list false (s.2.1 ++ [row i t w k x]))).set e (earO i r d)).set d (.ds false (rowStep s.2.2 (row i t w k x))), Ex.iteT (M := Mh n) hc rfl (.expr (.bmeth (.attr (.var h0) (attr_at hE.e rfl)) (pre_list hE.r rfl) (.cons (.var rfl) .nil) rfl (append_at hE.r (by lia))) (.setattr (.idx (.var rfl) .cInt rfl) (.var h0) (setattr_at g1 (show (3 : Nat) < 100 by decide)) (row_exec rfl (.attr (.var h0) (attr_at get_set_eq rfl)) g2 (by lia) .nil))), h0, ⟨(get_set_ne A.ed).trans get_set_eq, (get_set_ne A.rd).trans ((get_set_ne A.er.symm).trans get_set_eq), get_set_eq⟩, hn, fun j j1 j2 j3 => (get_set_ne j3).trans ((get_set_ne j1).trans ((get_set_ne j2).trans (hf j j1 j2 j3))), by show (rowStep s.2.2 (row i t w k x)).length + m < lim; lia, by show (s.2.1 ++ [_]).length + m < lim; rw [List.length_append]; show s.2.1.length + 1 + m < lim; lia⟩
      · rw [decide_eq_false q] at hc
        have e1 : earStep s v = s := if_neg q
        rw [e1]
        exact ⟨_, S, Ex.iteF (M := Mh n) hc rfl .nil, h0, hE, hn, hf, by lia, by lia⟩
  exact ⟨ρ', S, hloop, h0, hE', hn, hf⟩
structure Heard (σ S : St) (e r d : Nat) (s : Int × List V × List (Str × V)) : Prop where
  at_ : EarAt S e r d s.1 s.2.1 s.2.2
  n : S.n = σ.n
  oth : ∀ j, j ≠ e → j ≠ r → j ≠ d → S.get j = σ.get j
theorem hear_lst {n e r d : Nat} {T : Int} {K B : List V} {D : List (Str × V)} (A : Apart e r d) (hE : EarAt σ e r d T K D) (hB : ∀ v ∈ B, IsRow v) (hK : K.length + B.length < lim) (hD : D.length + B.length < lim) :
    ∃ S, run P (n + 1) false "Ear" "hear" [.ref e, .lst B] [] σ = some (.ok (.int (B.foldl earStep (T, K, D)).1), S) ∧ Heard σ S e r d (B.foldl earStep (T, K, D)) := by
  obtain ⟨ρ', S, hl, h0, h1, h2, h3⟩ := hear_loop (n := n) (ρ := rhoOf [.ref e, .lst B]) A hE rfl hB hK hD
  exact ⟨S, call_at rfl rfl rfl (.for1 rfl (.var rfl) rfl hl (.ret (.attr (.var h0) (attr_at h1.e rfl)))), h1, h2, h3⟩
theorem hear_ref {n e r d h : Nat} {T : Int} {K B : List V} {D : List (Str × V)} (A : Apart e r d) (hE : EarAt σ e r d T K D) (hh : σ.get h = some (.list false B)) (hhe : h ≠ e ∧ h ≠ r ∧ h ≠ d) (hB : ∀ v ∈ B, IsRow v) (hK : K.length + B.length < lim) (hD : D.length + B.length < lim) :
    ∃ S, run P (n + 1) false "Ear" "hear" [.ref e, .ref h] [] σ = some (.ok (.int (B.foldl earStep (T, K, D)).1), S) ∧ Heard σ S e r d (B.foldl earStep (T, K, D)) := by
  have hL : ∀ j, j ≠ h → (lockV σ (.ref h)).get j = σ.get j := fun j hj => by rw [lock_ref hh]; exact get_set_ne hj
  have hsub : ∀ j, j = e ∨ j = r ∨ j = d → j ≠ h := fun j hj => by rcases hj with rfl | rfl | rfl; exact hhe.1.symm; exact hhe.2.1.symm; exact hhe.2.2.symm
  have hEL : EarAt (lockV σ (.ref h)) e r d T K D := hE.keep fun j hj => hL j (hsub j hj)
  obtain ⟨ρ', S, hl, h0, h1, h2, h3⟩ := hear_loop (n := n) (ρ := rhoOf [.ref e, .ref h]) A hEL rfl hB hK hD
  have hu : ∀ j, j ≠ h → (unlockV σ (.ref h) S).get j = S.get j := fun j hj => (unlock_get hh).trans (if_neg hj)
  have hE2 := h1.keep (σ' := unlockV σ (.ref h) S) fun j hj => hu j (hsub j hj)
  refine ⟨unlockV σ (.ref h) S, call_at rfl rfl rfl (.for1 rfl (.var rfl) (items_ref hh) hl (.ret (.attr (.var h0) (attr_at hE2.e rfl)))), hE2, ?_, fun j j1 j2 j3 => ?_⟩
  · rw [unlock_ref hh]; exact h2.trans (by rw [lock_ref hh]; rfl)
  · by_cases q : j = h
    · rw [q, unlock_get hh, if_pos rfl]
    · rw [hu j q, h3 j j1 j2 j3, hL j q]
theorem heard_run {n e r d : Nat} {T : Int} {K : List V} {D : List (Str × V)} (hE : EarAt σ e r d T K D) : run P (n + 1) false "Ear" "heard" [.ref e] [] σ = some (.ok (.ref σ.n), σ.new (.list false K)) :=
  call_at rfl rfl rfl (.ret (.bcall (.cons (.attr (.var rfl) (attr_at hE.e rfl)) .nil) rfl (by
    show onO (listAt σ r) _ = _
    rw [listAt_of hE.r]; rfl)))
noncomputable def preEar (σ : St) (b : Int) : St := ((((((σ.new (.inst "Ear" [])).set σ.n (.inst "Ear" [("taken", .int (b - 1))])).new (.list false [])).set σ.n (.inst "Ear" [("taken", .int (b - 1)), ("rows", .ref (σ.n + 1))])).new (.ds false [])).set σ.n (earO (b - 1) (σ.n + 1) (σ.n + 2)))
theorem pre_ear {b : Int} : EarAt (preEar σ b) σ.n (σ.n + 1) (σ.n + 2) (b - 1) [] [] := by
  refine ⟨get_set_eq, (get_set_ne (Nat.succ_ne_self _)).trans ((get_new_lt (Nat.lt_succ_self _)).trans ((get_set_ne (Nat.succ_ne_self _)).trans get_new_eq)), (get_set_ne (by lia)).trans get_new_eq⟩
theorem pre_old {b : Int} {j : Nat} (hj : j < σ.n) : (preEar σ b).get j = σ.get j := by
  have ne : j ≠ σ.n := Nat.ne_of_lt hj
  exact (get_set_ne ne).trans ((get_new_lt (show j < σ.n + 1 + 1 by lia)).trans ((get_set_ne ne).trans ((get_new_lt (show j < σ.n + 1 by lia)).trans ((get_set_ne ne).trans (get_new_lt hj)))))
theorem one_lt : (1 : Nat) < 100 := by decide
theorem two_lt : (2 : Nat) < 100 := by decide
theorem einit_at {n : Nat} {b : Int} :
    ∃ σ', run P (n + 1) false "Ear" "__init__" [.ref σ.n, .int b, .none] [] (σ.new (.inst "Ear" [])) = some (.ok .none, σ') ∧ EarAt σ' σ.n (σ.n + 1) (σ.n + 2) (b - 1) [] [] ∧ σ'.n = σ.n + 3 ∧ ∀ j, j < σ.n → σ'.get j = σ.get j :=
  ⟨preEar σ b, call_at0 rfl rfl rfl (.setattr (.sub (.var rfl) .cInt) (.var rfl) (setattr_at get_new_eq (by decide)) (.setattr (.listM .nil (by decide)) (.var rfl) (setattr_at ((get_new_lt (Nat.lt_succ_self _)).trans get_set_eq) one_lt) (.setattr .dict0 (.var rfl) (setattr_at ((get_new_lt (show σ.n < σ.n + 1 + 1 by lia)).trans get_set_eq) two_lt) (.iteF (.notNone (.var rfl)) rfl .nil)))), pre_ear, rfl, fun j hj => pre_old hj⟩
end Lw.L09
namespace Lw.L09
open PySem
theorem inst_ne {c d : String} {fs gs : List (String × V)} (h : c ≠ d) (e : some (O.inst c fs) = some (O.inst d gs)) : False := h (by injection e with e; injection e)
structure Ln where
  l : Nat
  w : Nat
  e : Nat
  rw : Nat
  sd : Nat
  p : Str
  had : Int
  taken : Int
  R : List V
  D : List (Str × V)
  b : Int
noncomputable abbrev lineO (rm : Nat) (k : Int) (e : Nat) : O := .inst "Line" [("room", .ref rm), ("watcher", .int k), ("ear", .ref e)]
structure LnAt (σ : St) (a : Fin 12 → Nat) (k : Int) (L : Ln) : Prop where
  line : σ.get L.l = some (lineO (a 0) k L.e)
  wat : σ.get L.w = some (watO L.p L.had L.had)
  ear : EarAt σ L.e L.rw L.sd L.taken L.R L.D
noncomputable def Ln.adr (L : Ln) : List Nat := [L.l, L.w, L.e, L.rw, L.sd]
theorem LnAt.keep {σ S : St} {a a' : Fin 12 → Nat} {k : Int} {L : Ln} (h : LnAt σ a k L) (hs : ∀ x ∈ L.adr, S.get x = σ.get x) (ha : a' 0 = a 0) : LnAt S a' k L := by
  simp only [Ln.adr, List.mem_cons, List.not_mem_nil, or_false] at hs
  refine ⟨by rw [ha]; exact (hs _ (.inl rfl)).trans h.line, (hs _ (.inr (.inl rfl))).trans h.wat, h.ear.keep fun j hj => hs j ?_⟩
  rcases hj with rfl | rfl | rfl
  · exact .inr (.inr (.inl rfl))
  · exact .inr (.inr (.inr (.inl rfl)))
  · exact .inr (.inr (.inr (.inr rfl)))
theorem LnAt.apart {σ : St} {a : Fin 12 → Nat} {k : Int} {L : Ln} (h : LnAt σ a k L) : Apart L.e L.rw L.sd :=
  ⟨fun q => (by have := h.ear.e; rw [q, h.ear.r] at this; cases this), fun q => (by have := h.ear.e; rw [q, h.ear.d] at this; cases this), fun q => (by have := h.ear.r; rw [q, h.ear.d] at this; cases this)⟩
theorem LnAt.wne {σ : St} {a : Fin 12 → Nat} {k : Int} {L : Ln} (h : LnAt σ a k L) : L.w ≠ L.e ∧ L.w ≠ L.rw ∧ L.w ≠ L.sd ∧ L.w ≠ L.l :=
  ⟨fun q => (by have := h.wat; rw [q, h.ear.e] at this; exact inst_ne (by decide) this), fun q => (by have := h.wat; rw [q, h.ear.r] at this; cases this), fun q => (by have := h.wat; rw [q, h.ear.d] at this; cases this), fun q => (by have := h.wat; rw [q, h.line] at this; exact inst_ne (by decide) this)⟩
theorem LnAt.lne {σ : St} {a : Fin 12 → Nat} {k : Int} {L : Ln} (h : LnAt σ a k L) : L.l ≠ L.e ∧ L.l ≠ L.rw ∧ L.l ≠ L.sd :=
  ⟨fun q => (by have := h.line; rw [q, h.ear.e] at this; exact inst_ne (by decide) this), fun q => (by have := h.line; rw [q, h.ear.r] at this; cases this), fun q => (by have := h.line; rw [q, h.ear.d] at this; cases this)⟩
noncomputable def Ln.Out (L : Ln) (σ : St) (a : Fin 12 → Nat) : Prop := ∀ x ∈ L.adr, x < σ.n ∧ ∀ i, x ≠ a i
noncomputable def foundOf (r : Rm) (L : Ln) (m : Nat) : List V := (r.R.filter (keepR L.p L.had)).take m
noncomputable def heardOf (luck : Int) (found : List V) : List V := if luck = 0 ∨ luck = 2 then found else if luck = 3 then found.take (found.length / 2) else []
noncomputable def Ln.turn (L : Ln) (r : Rm) (m : Nat) (luck : Int) : Ln :=
  { L with
    had := if luck = 0 then toldTo r.last L.had (foundOf r L m) m else L.had
    taken := ((heardOf luck (foundOf r L m)).foldl earStep (L.taken, L.R, L.D)).1
    R := ((heardOf luck (foundOf r L m)).foldl earStep (L.taken, L.R, L.D)).2.1
    D := ((heardOf luck (foundOf r L m)).foldl earStep (L.taken, L.R, L.D)).2.2 }
theorem slice_toL {σ : St} {t m : Nat} {vs : List V} (h : σ.get t = some (.list false vs)) : sliceV false (.ref t) .none (.int m) σ = some (.ok (.lst (vs.take m)), σ) := by
  show onO (listAt σ t) _ = _
  rw [listAt_of h]
  show onO (clamp vs.length (.int m) vs.length) (fun b => some (Res.ok (V.lst (cutL vs 0 b)), σ)) = _
  rw [clamp_nat]; exact congrArg (fun l => some (Res.ok (V.lst l), σ)) cut_take
section
variable {a : Fin 12 → Nat} {σ : St} {r : Rm} {q : Qm} {n : Nat}
theorem At.keep {S : St} (A : At σ a r q) (h : ∀ i, S.get (a i) = σ.get (a i)) (hn : σ.n ≤ S.n) : At S a r q := ⟨fun i => (h i).trans (A.at_ i), A.inj, fun i => Nat.lt_of_lt_of_le (A.lt i) hn⟩
theorem turn_hear {L : Ln} {luck : Int} {found : List V} {h : Nat} {ρ : Rho} (hE : EarAt σ L.e L.rw L.sd L.taken L.R L.D) (hl : ∀ T : St, (∀ j, j ≠ L.e → j ≠ L.rw → j ≠ L.sd → T.get j = σ.get j) → Ev (Mh (n + 1)) ρ T (.attr (.var 0) "ear") (.ref L.e) T) (ap : Apart L.e L.rw L.sd) (hh : σ.get h = some (.list false found)) (hhe : h ≠ L.e ∧ h ≠ L.rw ∧ h ≠ L.sd)
    (hB : ∀ v ∈ found, IsRow v) (hK : L.R.length + found.length < lim) (hD : L.D.length + found.length < lim) (h2 : ρ 2 = some (.int luck)) (h4 : ρ 4 = some (.ref h)) :
    ∃ T, Heard σ T L.e L.rw L.sd ((heardOf luck found).foldl earStep (L.taken, L.R, L.D)) ∧ ∀ (rest : List S) (R : RS), Ex (Mh (n + 1)) rest ρ T R → Ex (Mh (n + 1)) (.ite (.bool false [(.cmp .eq (.var 2) (.cInt 0)), (.cmp .eq (.var 2) (.cInt 2))]) [.expr (.mcall (.attr (.var 0) "ear") "hear" [(.var 4)] [] [])] [] :: .ite (.cmp .eq (.var 2) (.cInt 3)) [.expr (.mcall (.attr (.var 0) "ear") "hear" [(.slice false (.var 4) .cNone (.bin .fdiv (.bcall .len [(.var 4)]) (.cInt 2)))] [] [])] [] :: rest) ρ σ R := by
  have c : ∀ {S : St} {j : Int} {b : Bool}, (luck == j) = b → Ev (Mh (n + 1)) ρ S (.cmp .eq (.var 2) (.cInt j)) (.bool b) S := fun hb => .cmp (.var h2) .cInt (congrArg some hb)
  have e0 := hl σ fun _ _ _ _ => rfl
  unfold heardOf
  by_cases q02 : luck = 0 ∨ luck = 2
  · rw [if_pos q02]
    obtain ⟨S, e1, H⟩ := hear_ref (n := n) ap hE hh hhe hB hK hD
    have q3 : (luck == 3) = false := beq_eq_false_iff_ne.mpr fun z => by rw [z] at q02; exact absurd q02 (by decide)
    refine ⟨S, H, fun rest R k => .iteT (a := .bool false _) (x := .bool true) ?_ rfl (.expr (.mcall e0 (meth_at hE.e rfl) (.cons (.var h4) .nil) .nil e1) (.iteF (c q3) rfl k))⟩
    by_cases q0 : luck = 0
    · exact .boolS (c (beq_iff_eq.mpr q0)) rfl
    · exact .boolC (c (beq_eq_false_iff_ne.mpr q0)) rfl (.bool1 (c (beq_iff_eq.mpr (q02.resolve_left q0))))
  · rw [if_neg q02]
    have cc : Ev (Mh (n + 1)) ρ σ (.bool false [(.cmp .eq (.var 2) (.cInt 0)), (.cmp .eq (.var 2) (.cInt 2))]) (.bool false) σ := .boolC (c (beq_eq_false_iff_ne.mpr fun z => q02 (.inl z))) rfl (.bool1 (c (beq_eq_false_iff_ne.mpr fun z => q02 (.inr z))))
    by_cases q3 : luck = 3
    · rw [if_pos q3]
      obtain ⟨S, e1, H⟩ := hear_lst (n := n) (B := found.take (found.length / 2)) ap hE (fun v hv => hB v (List.mem_of_mem_take hv)) (Nat.lt_of_le_of_lt (Nat.add_le_add_left (List.length_take_le' ..) _) hK) (Nat.lt_of_le_of_lt (Nat.add_le_add_left (List.length_take_le' ..) _) hD)
      have ed : Ev (Mh (n + 1)) ρ σ (.bin .fdiv (.bcall .len [(.var 4)]) (.cInt 2)) (.int ((found.length / 2 : Nat) : Int)) σ := .fdiv (.bcall (.cons (.var h4) .nil) rfl (len_ref hh)) .cInt (by decide)
      exact ⟨S, H, fun rest R k => .iteF cc rfl (.iteT (c (beq_iff_eq.mpr q3)) rfl (.expr (.mcall e0 (meth_at hE.e rfl) (.cons (.slice (.var h4) .cNone ed (slice_toL hh)) .nil) .nil e1) k))⟩
    · rw [if_neg q3]
      exact ⟨σ, ⟨hE, rfl, fun _ _ _ _ => rfl⟩, fun rest R k => .iteF cc rfl (.iteF (c (beq_eq_false_iff_ne.mpr q3)) rfl k)⟩
theorem turn_run {L : Ln} {k luck : Int} {m : Nat} (A : At σ a r q) (B : LnAt σ a k L) (O : L.Out σ a) (hr : ∀ v ∈ r.R, IsRow v) (hb : r.R.length < lim) (hv : lk r.ws k = some (.ref L.w)) (hK : L.R.length + r.R.length < lim) (hD : L.D.length + r.R.length < lim) :
    ∃ S, run P (n + 4) false "Line" "turn" [.ref L.l, .int m, .int luck] [] σ = some (.ok (.int (((L.turn r m luck).R.length : Int) - L.R.length)), S) ∧ At S a r q ∧ LnAt S a k (L.turn r m luck) ∧ Fr [L.w, L.e, L.rw, L.sd] σ S := by
  have ol := O L.l (by simp [Ln.adr])
  have ow := O L.w (by simp [Ln.adr])
  have oe := O L.e (by simp [Ln.adr])
  have orr := O L.rw (by simp [Ln.adr])
  have os := O L.sd (by simp [Ln.adr])
  have wn := B.wne
  have ln := B.lne
  have ap := B.apart
  have f1 : Fr [] σ (σ.new (.list false L.R)) := Fr.new Fr.refl
  have A1 := A.fr f1
  have k1 : ∀ x, x < σ.n → (σ.new (.list false L.R)).get x = σ.get x := fun x hx => get_new_lt hx
  have B1 : LnAt (σ.new (.list false L.R)) a k L := B.keep (fun x hx => k1 x (O x hx).1) rfl
  obtain ⟨S2, e2, g2, w2, A2, f2, n2⟩ := pull_run (n := n) (m := m) A1 hr hb hv B1.wat (show L.w < σ.n + 1 by lia) ow.2
  have hn2 : S2.n = σ.n + 2 := n2
  have e2 : run P (n + 3) false "Room" "pull" [.ref (a 0), .int k, .int m] [] (σ.new (.list false L.R)) = some (.ok (.ref (σ.n + 1)), S2) := e2
  have g2 : S2.get (σ.n + 1) = some (.list false (foundOf r L m)) := g2
  have w2 : S2.get L.w = some (watO L.p (toldTo r.last L.had (foundOf r L m) m) L.had) := w2
  have k2 : ∀ x, x < σ.n → x ≠ L.w → S2.get x = σ.get x := fun x hx hw => (f2.at_ x (show x < σ.n + 1 by lia) fun h => hw (List.mem_singleton.mp h)).trans (k1 x hx)
  have E2 : EarAt S2 L.e L.rw L.sd L.taken L.R L.D := B.ear.keep fun j hj => by
    rcases hj with rfl | rfl | rfl
    · exact k2 _ oe.1 wn.1.symm
    · exact k2 _ orr.1 wn.2.1.symm
    · exact k2 _ os.1 wn.2.2.1.symm
  have hfr : ∀ v ∈ foundOf r L m, IsRow v := fun v hv => hr v (List.mem_filter.mp (List.mem_of_mem_take hv)).1
  have hfl : (foundOf r L m).length ≤ r.R.length := Nat.le_trans (List.length_take_le' ..) (List.length_filter_le ..)
  generalize hfo : foundOf r L m = found at g2 w2 hfr hfl
  have l2 : S2.get L.l = some (lineO (a 0) k L.e) := (k2 _ ol.1 wn.2.2.2.symm).trans B.line
  obtain ⟨S3, H, k3⟩ := turn_hear (n := n + 2) (luck := luck) (ρ := upd (upd (rhoOf [.ref L.l, .int m, .int luck]) 3 (.int L.R.length)) 4 (.ref (σ.n + 1))) E2 (fun S hS => .attr (.var rfl) (attr_at ((hS L.l ln.1 ln.2.1 ln.2.2).trans l2) rfl)) ap g2 ⟨by lia, by lia, by lia⟩ hfr (by lia) (by lia) rfl rfl
  have hs3 : ∀ x, x ≠ L.e → x ≠ L.rw → x ≠ L.sd → S3.get x = S2.get x := H.oth
  have A3 : At S3 a r q := A2.keep (fun i => hs3 _ (oe.2 i).symm (orr.2 i).symm (os.2 i).symm) (Nat.le_of_eq H.n.symm)
  have w3 : S3.get L.w = some (watO L.p (toldTo r.last L.had found m) L.had) := (hs3 _ wn.1 wn.2.1 wn.2.2.1).trans w2
  have l3 : S3.get L.l = some (lineO (a 0) k L.e) := (hs3 _ ln.1 ln.2.1 ln.2.2).trans l2
  have hn3 : S3.n = σ.n + 2 := H.n.trans hn2
  have E3 := H.at_
  generalize hsx : (heardOf luck found).foldl earStep (L.taken, L.R, L.D) = s at E3 H k3
  have turnE : ∀ x : Int, (if luck = 0 then toldTo r.last L.had found m else L.had) = x → L.turn r m luck = { L with had := x, taken := s.1, R := s.2.1, D := s.2.2 } := fun x hx => by
    unfold Ln.turn
    rw [hfo, hsx, hx]
  have fin : ∀ x : Int, (if luck = 0 then toldTo r.last L.had found m else L.had) = x → (∀ (rest : List S) (R : RS), Ex (Mh (n + 3)) rest (upd (upd (rhoOf [.ref L.l, .int m, .int luck]) 3 (.int L.R.length)) 4 (.ref (σ.n + 1))) (S3.set L.w (watO L.p x x)) R → Ex (Mh (n + 3)) (.ite (.cmp .eq (.var 2) (.cInt 0)) [.expr (.mcall (.attr (.var 0) "room") "confirm" [(.attr (.var 0) "watcher")] [] [])] [.expr (.mcall (.attr (.var 0) "room") "broken" [(.attr (.var 0) "watcher")] [] [])] :: rest) (upd (upd (rhoOf [.ref L.l, .int m, .int luck]) 3 (.int L.R.length)) 4 (.ref (σ.n + 1))) S3 R) →
      ∃ S, run P (n + 4) false "Line" "turn" [.ref L.l, .int m, .int luck] [] σ = some (.ok (.int (((L.turn r m luck).R.length : Int) - L.R.length)), S) ∧ At S a r q ∧ LnAt S a k (L.turn r m luck) ∧ Fr [L.w, L.e, L.rw, L.sd] σ S := fun x hx kx => by
    rw [turnE x hx]
    have E4 : EarAt (S3.set L.w (watO L.p x x)) L.e L.rw L.sd s.1 s.2.1 s.2.2 := E3.keep fun j hj => get_set_ne (by rcases hj with rfl | rfl | rfl; exact wn.1.symm; exact wn.2.1.symm; exact wn.2.2.1.symm)
    have l4 : (S3.set L.w (watO L.p x x)).get L.l = some (lineO (a 0) k L.e) := (get_set_ne wn.2.2.2.symm).trans l3
    have A4 : At (S3.set L.w (watO L.p x x)) a r q := A3.keep (fun i => get_set_ne (ow.2 i).symm) (Nat.le_refl _)
    have f5 : Fr [] (S3.set L.w (watO L.p x x)) ((S3.set L.w (watO L.p x x)).new (.list false s.2.1)) := Fr.new Fr.refl
    have kk : ∀ j, j < σ.n → j ∉ [L.w, L.e, L.rw, L.sd] → ((S3.set L.w (watO L.p x x)).new (.list false s.2.1)).get j = σ.get j := fun j hj hm => by
      simp only [List.mem_cons, List.not_mem_nil, or_false, not_or] at hm
      rw [get_new_lt (σ := S3.set L.w (watO L.p x x)) (show j < S3.n by lia), get_set_ne hm.1, hs3 j hm.2.1 hm.2.2.1 hm.2.2.2, k2 j hj hm.1]
    refine ⟨(S3.set L.w (watO L.p x x)).new (.list false s.2.1), call_at rfl rfl rfl (.assign (.bcall (.cons (.mcall (.attr (.var rfl) (attr_at B.line rfl)) (meth_at B.ear.e rfl) .nil .nil (heard_run (n := n + 2) B.ear)) .nil) rfl (len_ref get_new_eq))
      (.assign (.mcall (.attr (.var rfl) (attr_at B1.line rfl)) (meth_at (A1.at_ 0) rfl) (.cons (.attr (.var rfl) (attr_at B1.line rfl)) (.cons (.var rfl) .nil)) .nil e2)
      (k3 _ _ (kx _ _ (.ret (.sub (.bcall (.cons (.mcall (.attr (.var rfl) (attr_at l4 rfl)) (meth_at E4.e rfl) .nil .nil (heard_run (n := n + 2) E4)) .nil) rfl (len_ref get_new_eq)) (.var rfl))))))), A4.fr f5, ⟨?_, ?_, E4.keep fun j hj => get_new_lt ?_⟩, ⟨by show σ.n ≤ S3.n + 1; lia, kk⟩⟩
    · exact (get_new_lt (σ := S3.set L.w (watO L.p x x)) (show L.l < S3.n by lia)).trans l4
    · exact (get_new_lt (σ := S3.set L.w (watO L.p x x)) (show L.w < S3.n by lia)).trans get_set_eq
    · show j < S3.n
      rcases hj with rfl | rfl | rfl
      · have := oe.1; lia
      · have := orr.1; lia
      · have := os.1; lia
  have c : ∀ {b : Bool}, (luck == 0) = b → Ev (Mh (n + 3)) (upd (upd (rhoOf [.ref L.l, .int m, .int luck]) 3 (.int L.R.length)) 4 (.ref (σ.n + 1))) S3 (.cmp .eq (.var 2) (.cInt 0)) (.bool b) S3 := fun hb => .cmp (.var rfl) .cInt (congrArg some hb)
  by_cases q0 : luck = 0
  · refine fin (toldTo r.last L.had found m) (if_pos q0) fun rest R z => .iteT (c (beq_iff_eq.mpr q0)) rfl (.expr (.mcall (.attr (.var rfl) (attr_at l3 rfl)) (meth_at (A3.at_ 0) rfl) (.cons (.attr (.var rfl) (attr_at l3 rfl)) .nil) .nil (confirm_run (n := n + 1) A3 hv w3)) z)
  · refine fin L.had (if_neg q0) fun rest R z => .iteF (c (beq_eq_false_iff_ne.mpr q0)) rfl (.expr (.mcall (.attr (.var rfl) (attr_at l3 rfl)) (meth_at (A3.at_ 0) rfl) (.cons (.attr (.var rfl) (attr_at l3 rfl)) .nil) .nil (broken_run (n := n + 1) A3 hv w3)) z)
end
end Lw.L09
namespace Lw.L09
open PySem
theorem cut_put : (Str.ofString "cut" == putS) = false := by decide +kernel
theorem cutAll_sum {o : Nat} {t : Int} : ∀ (ks : List Str) (s : List (Str × (Str × Int)) × List V), ks.Nodup → (∀ k ∈ ks, ∃ y, lk s.1 k = some y) → (cutAll o t ks s).2.length + (cutAll o t ks s).1.length ≤ s.2.length + s.1.length := by
  intro ks
  induction ks with
  | nil =>
    intro s _ _
    exact Nat.le_refl _
  | cons k ks ih =>
    intro s hn hk
    obtain ⟨y, hy⟩ := hk k (List.mem_cons_self ..)
    obtain ⟨n1, n2⟩ := List.nodup_cons.mp hn
    have h := ih (cutDR o t s k) n2 fun k' hk' => by
      obtain ⟨z, hz⟩ := hk k' (List.mem_cons_of_mem _ hk')
      refine ⟨z, ?_⟩
      show lk (rm s.1 k) k' = _
      rw [lk_rm, if_neg fun q : k' = k => n1 (q ▸ hk')]; exact hz
    have e : (cutDR o t s k).2.length = s.2.length + 1 := by show (s.2 ++ [_]).length = _; rw [List.length_append]; rfl
    have e2 : (cutDR o t s k).1.length < s.1.length := rm_lt hy
    show (cutAll o t ks (cutDR o t s k)).2.length + (cutAll o t ks (cutDR o t s k)).1.length ≤ _
    lia
structure Good (old : List V) (s : List (Str × (Str × Int)) × List V) : Prop where
  hist : Hist (old ++ s.2)
  val : ∀ k, (lk s.1 k).map (·.1) = valH (old ++ s.2) k
theorem Good.cut {old : List V} {s : List (Str × (Str × Int)) × List V} {t : Int} {k : Str} (h : Good old s) : Good old (cutDR old.length t s k) := by
  have e : old ++ (cutDR old.length t s k).2 = (old ++ s.2) ++ [row ((((old ++ s.2).length : Nat) : Int) + 1) t (Str.ofString "cut") k (Str.ofString "")] := by rw [List.length_append, List.append_assoc]; rfl
  refine ⟨e ▸ h.hist.snoc, fun k' => ?_⟩
  rw [e, valH_snoc, cut_put]
  show (lk (rm s.1 k) k').map (·.1) = _
  rw [lk_rm]
  by_cases q : k' = k
  · rw [if_pos q, if_pos q.symm]; rfl
  · rw [if_neg q, if_neg fun z => q z.symm]; exact h.val k'
theorem Good.put {old : List V} {s : List (Str × (Str × Int)) × List V} {t h : Int} {k x : Str} (g : Good old s) : Good old (st s.1 k (x, h), s.2 ++ [row (((old.length + s.2.length : Nat) : Int) + 1) t putS k x]) := by
  have e : old ++ (s.2 ++ [row (((old.length + s.2.length : Nat) : Int) + 1) t putS k x]) = (old ++ s.2) ++ [row ((((old ++ s.2).length : Nat) : Int) + 1) t putS k x] := by rw [List.length_append, List.append_assoc]
  refine ⟨e ▸ g.hist.snoc, fun k' => ?_⟩
  show (lk (st s.1 k (x, h)) k').map (·.1) = valH (old ++ (s.2 ++ [_])) k'
  rw [e, valH_snoc, beq_self_eq_true, lk_st]
  by_cases q : k' = k
  · rw [if_pos q, if_pos q.symm]; rfl
  · rw [if_neg q, if_neg fun z => q z.symm]; exact g.val k'
theorem cutAll_good {old : List V} {t : Int} : ∀ (ks : List Str) (s : List (Str × (Str × Int)) × List V), Good old s → Good old (cutAll old.length t ks s) := by
  intro ks
  induction ks with
  | nil =>
    intro _ h
    exact h
  | cons _ ks ih =>
    intro _ h
    exact ih _ h.cut
theorem cutAll_more {o : Nat} {t : Int} : ∀ (ks : List Str) (s : List (Str × (Str × Int)) × List V), ∃ B, (cutAll o t ks s).2 = s.2 ++ B ∧ putK B = [] := by
  intro ks
  induction ks with
  | nil =>
    intro s
    exact ⟨[], (List.append_nil _).symm, rfl⟩
  | cons k ks ih =>
    intro s
    obtain ⟨B, h1, h2⟩ := ih (cutDR o t s k)
    refine ⟨row (((o + s.2.length : Nat) : Int) + 1) t (Str.ofString "cut") k (Str.ofString "") :: B, ?_, ?_⟩
    · show (cutAll o t ks (cutDR o t s k)).2 = _
      rw [h1]; show (s.2 ++ [_]) ++ B = _; rw [List.append_assoc]; rfl
    · show List.filterMap putK1 (_ :: B) = []
      rw [List.filterMap_cons, show putK1 (row (((o + s.2.length : Nat) : Int) + 1) t (Str.ofString "cut") k (Str.ofString "")) = none from by show (if (Str.ofString "cut" == putS) = true then some k else none) = none; rw [cut_put]; rfl]
      exact h2
structure TG (old : List V) (s : List (Str × (Str × Int)) × List V) (mine : List (Int × V)) (lo now : Int) : Prop where
  good : Good old s
  tale : Tale (old ++ s.2) mine now
  z : 0 ≤ lo
  lo : ∀ v ∈ old ++ s.2, tickR v ≤ lo
theorem TG.cut {old : List V} {s : List (Str × (Str × Int)) × List V} {mine : List (Int × V)} {lo now t : Int} {k : Str} {y : Str × Int} (h : TG old s mine lo now) (hk : lk s.1 k = some y) (h1 : lo ≤ t) (h2 : t ≤ now) : TG old (cutDR old.length t s k) mine t now := by
  have e : old ++ (cutDR old.length t s k).2 = (old ++ s.2) ++ [row ((((old ++ s.2).length : Nat) : Int) + 1) t (Str.ofString "cut") k (Str.ofString "")] := by rw [List.length_append, List.append_assoc]; rfl
  have lo' : ∀ v ∈ old ++ s.2, tickR v ≤ t := fun v hv => Int.le_trans (h.lo v hv) h1
  have hn : lk mine ((((old ++ s.2).length : Nat) : Int) + 1) = none := by
    cases q : lk mine ((((old ++ s.2).length : Nat) : Int) + 1) with
    | none => rfl
    | some v =>
      obtain ⟨e, he, e2⟩ := List.mem_map.mp (key_lk q)
      have := (h.tale.key e he).2
      lia
  refine ⟨h.good.cut, ?_, Int.le_trans h.z h1, fun v hv => ?_⟩
  · rw [e]
    refine h.tale.snoc lo' ⟨Int.le_trans h.z h1, h2⟩ (fun _ => ?_) (fun _ _ => rfl) (fun e he => ?_) (.inr ⟨hn, rfl, rfl⟩)
    · rw [← h.good.val k, hk]; rfl
    · have := h.tale.key e he; lia
  · rw [e] at hv
    rcases List.mem_append.mp hv with hv | hv
    · exact lo' v hv
    · cases List.mem_singleton.mp hv; exact Int.le_refl _
theorem TG.later {old : List V} {s : List (Str × (Str × Int)) × List V} {mine : List (Int × V)} {lo now t : Int} (h : TG old s mine lo now) (h1 : lo ≤ t) : TG old s mine t now := ⟨h.good, h.tale, Int.le_trans h.z h1, fun v hv => Int.le_trans (h.lo v hv) h1⟩
theorem TG.cutAll {old : List V} {mine : List (Int × V)} {now t : Int} (h2 : t ≤ now) : ∀ (ks : List Str) (s : List (Str × (Str × Int)) × List V) (lo : Int), TG old s mine lo now → lo ≤ t → ks.Nodup → (∀ k ∈ ks, ∃ y, lk s.1 k = some y) → TG old (L09.cutAll old.length t ks s) mine t now := by
  intro ks
  induction ks with
  | nil =>
    intro _ _ h h1 _ _
    exact h.later h1
  | cons k ks ih =>
    intro s lo h h1 hn hk
    obtain ⟨y, hy⟩ := hk k (List.mem_cons_self ..)
    obtain ⟨n1, n2⟩ := List.nodup_cons.mp hn
    exact ih _ t (h.cut hy h1 h2) (Int.le_refl _) n2 fun k' hk' => by
      obtain ⟨z, hz⟩ := hk k' (List.mem_cons_of_mem _ hk')
      refine ⟨z, ?_⟩
      show lk (rm s.1 k) k' = _
      rw [lk_rm, if_neg fun q : k' = k => n1 (q ▸ hk')]; exact hz
end Lw.L09
namespace Lw.L09
open PySem
structure Rm.Ok (r : Rm) : Prop where
  nd : (r.D.map (·.1)).Nodup
  en : (r.E.map (·.1)).Nodup
  key : ∀ k v, lk r.E k = some v → (1 ≤ k ∧ r.now < v) ∧ ∃ x, lk r.Ls k = some x ∧ 1 ≤ x
  le : r.E.length ≤ r.g
  ll : r.Ls.length ≤ r.g
  good : Good r.old (r.D, r.R)
  pk : r.H.length + r.D.length ≤ 2 * (putK r.H).length
  now : 0 ≤ r.now
structure Rm.Lm (r : Rm) : Prop where
  g : r.g ≤ 58
  pk : (putK r.H).length ≤ 62
structure Grow (r r' : Rm) (i j : Nat) : Prop where
  g : r'.g ≤ r.g + i
  pk : (putK r'.H).length ≤ (putK r.H).length + j
  wn : r'.wn = r.wn
  ws : r'.ws = r.ws
  old : r'.old = r.old
  more : ∃ B, r'.R = r.R ++ B
noncomputable def Tells (r r' : Rm) : Prop := ∀ mine, Tale r.H mine r.now → Tale r'.H mine r'.now
section
variable {a : Fin 12 → Nat} {σ : St} {r : Rm} {q : Qm} {n : Nat}
theorem Rm.Ok.row (o : r.Ok) : ∀ v ∈ r.H, IsRow v := o.good.hist.row
theorem Rm.Ok.len (o : r.Ok) : r.D.length ≤ (putK r.H).length := by
  have := nodup_len o.nd (m := putK r.H) fun k hk => by
    obtain ⟨y, hy⟩ := lk_key hk
    have := o.good.val k
    rw [show lk (r.D, r.R).1 k = some y from hy] at this
    exact valH_put o.row this.symm
  rw [List.length_map] at this; exact this
theorem Rm.H_len : r.H.length = r.old.length + r.R.length := List.length_append
theorem Tale.lo {H : List V} {mine : List (Int × V)} {now : Int} (T : Tale H mine now) : ∀ v ∈ H, tickR v ≤ now := fun v hv => by
  obtain ⟨i, hi⟩ := List.mem_iff_getElem?.mp hv
  obtain ⟨t, w, k, x, rfl, h, _⟩ := (T.row i v hi).ex
  exact h.2
theorem Rm.Ok.tg {mine : List (Int × V)} {u : Int} (o : r.Ok) (T : Tale r.H mine r.now) (h : r.now ≤ u) : TG r.old (r.D, r.R) mine r.now u := ⟨o.good, T.later h, o.now, Tale.lo T⟩
theorem ok_grant {t : Int} (h : r.Ok) (ht : ¬ t < 1) : (rGrant r t).Ok := by
  refine ⟨h.nd, st_nd h.en, fun k v hk => ?_, Nat.le_trans st_len (Nat.succ_le_succ h.le), Nat.le_trans st_len (Nat.succ_le_succ h.ll), h.good, h.pk, h.now⟩
  have hk : lk (st r.E (r.g + 1) (r.now + t)) k = some v := hk
  show (_ ∧ r.now < v) ∧ ∃ x, lk (st r.Ls (r.g + 1) t) k = some x ∧ 1 ≤ x
  rw [lk_st] at hk ⊢
  by_cases e : k = r.g + 1
  · rw [if_pos e] at hk ⊢; cases hk; exact ⟨⟨by lia, by lia⟩, t, rfl, by lia⟩
  · rw [if_neg e] at hk ⊢
    exact h.key k v hk
theorem gr_same {i j : Nat} : Grow r r i j := ⟨Nat.le_add_right .., Nat.le_add_right .., rfl, rfl, rfl, ⟨[], (List.append_nil _).symm⟩⟩
theorem gr_grant {t : Int} : Grow r (rGrant r t) 1 0 := ⟨Nat.le_refl _, Nat.le_refl _, rfl, rfl, rfl, ⟨[], (List.append_nil _).symm⟩⟩
structure Less (r r' : Rm) : Prop where
  g : r'.g = r.g
  s : r'.R.length + r'.D.length ≤ r.R.length + r.D.length
  wn : r'.wn = r.wn
  ws : r'.ws = r.ws
  old : r'.old = r.old
  more : ∃ B, r'.R = r.R ++ B ∧ putK B = []
  ends : ∀ k v, lk r'.E k = some v → lk r.E k = some v
theorem Less.refl : Less r r := ⟨rfl, Nat.le_refl _, rfl, rfl, rfl, ⟨[], (List.append_nil _).symm, rfl⟩, fun _ _ h => h⟩
theorem Less.trans {r₁ r₂ : Rm} (h : Less r r₁) (k : Less r₁ r₂) : Less r r₂ := by
  obtain ⟨B, b1, b2⟩ := h.more
  obtain ⟨C, c1, c2⟩ := k.more
  exact ⟨k.g.trans h.g, Nat.le_trans k.s h.s, k.wn.trans h.wn, k.ws.trans h.ws, k.old.trans h.old, ⟨B ++ C, by rw [c1, b1, List.append_assoc], by rw [putK_app, b2, c2]; rfl⟩, fun x s hx => h.ends x s (k.ends x s hx)⟩
theorem Less.pk {r' : Rm} (h : Less r r') : putK r'.H = putK r.H := by
  obtain ⟨B, b1, b2⟩ := h.more
  show putK (r'.old ++ r'.R) = putK (r.old ++ r.R)
  rw [h.old, b1, putK_app, putK_app, putK_app, b2, List.append_nil]
theorem Less.hs {r' : Rm} (h : Less r r') : r'.H.length + r'.D.length ≤ r.H.length + r.D.length := by
  rw [Rm.H_len, Rm.H_len, h.old]; have := h.s; lia
theorem Less.grow {r' : Rm} {i j : Nat} (h : Less r r') : Grow r r' i j := ⟨Nat.le_trans (Nat.le_of_eq h.g) (Nat.le_add_right ..), by rw [h.pk]; exact Nat.le_add_right .., h.wn, h.ws, h.old, let ⟨B, b, _⟩ := h.more; ⟨B, b⟩⟩
theorem Less.lm {r' : Rm} (h : Less r r') (z : r.Lm) : r'.Lm := ⟨h.g ▸ z.g, h.pk ▸ z.pk⟩
theorem less_drop {h t : Int} (o : r.Ok) : Less r (rDrop r h t) := by
  refine ⟨rfl, cutAll_sum (t := t) (ksOf r.D h) (r.D, r.R) (ks_nd o.nd) fun _ hk => ks_in hk, rfl, rfl, rfl, cutAll_more (ksOf r.D h) (r.D, r.R), fun k v hk => ?_⟩
  have hk : lk (rm r.E h) k = some v := hk
  rw [lk_rm] at hk
  by_cases e : k = h
  · rw [if_pos e] at hk; cases hk
  · rw [if_neg e] at hk; exact hk
theorem ok_drop {h t : Int} (k : r.Ok) : (rDrop r h t).Ok := by
  have L := less_drop (h := h) (t := t) k
  refine ⟨cutAll_nd _ _ k.nd, rm_nd k.en, fun j v hj => ?_, Nat.le_trans rm_len k.le, Nat.le_trans rm_len k.ll, cutAll_good _ _ k.good, Nat.le_trans L.hs (by rw [L.pk]; exact k.pk), k.now⟩
  have hj : lk (rm r.E h) j = some v := hj
  show _ ∧ ∃ x, lk (rm r.Ls h) j = some x ∧ _
  rw [lk_rm] at hj ⊢
  by_cases e : j = h
  · rw [if_pos e] at hj; cases hj
  · rw [if_neg e] at hj ⊢; exact k.key j v hj
theorem tell_drop {h t : Int} {mine : List (Int × V)} {lo now : Int} (o : r.Ok) (T : TG r.old (r.D, r.R) mine lo now) (h1 : lo ≤ t) (h2 : t ≤ now) : TG (rDrop r h t).old ((rDrop r h t).D, (rDrop r h t).R) mine t now := TG.cutAll h2 (ksOf r.D h) (r.D, r.R) lo T h1 (ks_nd o.nd) fun _ hk => ks_in hk
theorem putK_snoc {H : List V} {i t : Int} {k x : Str} : (putK (H ++ [Lw.row i t putS k x])).length = (putK H).length + 1 := by
  rw [putK_app, List.length_append]
  show _ + (List.filterMap putK1 [Lw.row i t putS k x]).length = _
  rw [List.filterMap_cons, show putK1 (Lw.row i t putS k x) = some k from (by show (if (putS == putS) = true then some k else none) = some k; rw [beq_self_eq_true]; rfl)]; rfl
theorem put_H {k x : Str} {h : Int} : (rPut r k x h).H = r.H ++ [Lw.row ((r.H.length : Int) + 1) r.now putS k x] := by
  show r.old ++ (r.R ++ [_]) = (r.old ++ r.R) ++ [_]
  rw [← List.append_assoc, List.length_append]
theorem cut_H {k : Str} : (rCut r k).H = r.H ++ [Lw.row ((r.H.length : Int) + 1) r.now cutS k (Str.ofString "")] := by
  show r.old ++ (r.R ++ [_]) = (r.old ++ r.R) ++ [_]
  rw [← List.append_assoc, List.length_append]
theorem cutK_snoc {H : List V} {i t : Int} {k x : Str} : putK (H ++ [Lw.row i t cutS k x]) = putK H := by
  rw [putK_app]
  show _ ++ List.filterMap putK1 [Lw.row i t cutS k x] = _
  rw [List.filterMap_cons, show putK1 (Lw.row i t cutS k x) = none from (by show (if (Str.ofString "cut" == putS) = true then some k else none) = none; rw [cut_put]; rfl)]
  exact List.append_nil _
theorem ok_put {k x : Str} {h : Int} (o : r.Ok) : (rPut r k x h).Ok := by
  refine ⟨st_nd o.nd, o.en, o.key, o.le, o.ll, o.good.put, ?_, o.now⟩
  have h1 := o.pk
  have h2 := st_len (D := r.D) (k := k) (v := (x, h))
  rw [put_H, putK_snoc, List.length_append]
  show r.H.length + 1 + (st r.D k (x, h)).length ≤ _
  lia
theorem gr_put {k x : Str} {h : Int} : Grow r (rPut r k x h) 0 1 := ⟨Nat.le_refl _, by rw [put_H, putK_snoc]; exact Nat.le_refl _, rfl, rfl, rfl, ⟨_, rfl⟩⟩
theorem ok_cut {k : Str} {y : Str × Int} (o : r.Ok) (hk : lk r.D k = some y) : (rCut r k).Ok := by
  refine ⟨rm_nd o.nd, o.en, o.key, o.le, o.ll, o.good.cut, ?_, o.now⟩
  have h1 := o.pk
  have h2 := rm_lt hk
  rw [cut_H, cutK_snoc, List.length_append]
  show r.H.length + 1 + (rm r.D k).length ≤ _
  lia
theorem gr_cut {k : Str} : Grow r (rCut r k) 0 0 := ⟨Nat.le_refl _, by rw [cut_H, cutK_snoc]; exact Nat.le_refl _, rfl, rfl, rfl, ⟨_, rfl⟩⟩
theorem ok_renew {h x : Int} {v : Int} (o : r.Ok) (hv : lk r.E h = some v) (hx : 1 ≤ x) : (rRenew r h x).Ok := by
  refine ⟨o.nd, st_nd o.en, fun k u hk => ?_, ?_, o.ll, o.good, o.pk, o.now⟩
  · have hk : lk (st r.E h (r.now + x)) k = some u := hk
    rw [lk_st] at hk
    by_cases e : k = h
    · subst e
      rw [if_pos rfl] at hk; cases hk
      obtain ⟨⟨h1, _⟩, h2⟩ := o.key _ _ hv
      exact ⟨⟨h1, by show r.now < r.now + x; lia⟩, h2⟩
    · rw [if_neg e] at hk; exact o.key _ _ hk
  · obtain ⟨e, he, _⟩ := Option.map_eq_some_iff.mp hv
    have hl : (st r.E h (r.now + x)).length = r.E.length := by
      unfold st
      rw [if_pos (List.any_eq_true.mpr ⟨e, List.mem_of_find?_eq_some he, List.find?_some he⟩), List.length_map]
    show (st r.E h (r.now + x)).length ≤ r.g
    rw [hl]; exact o.le
theorem gr_renew {h x : Int} : Grow r (rRenew r h x) 0 0 := ⟨Nat.le_refl _, Nat.le_refl _, rfl, rfl, rfl, ⟨[], (List.append_nil _).symm⟩⟩
theorem Rm.Lm.lims (z : r.Lm) (o : r.Ok) : r.E.length < lim ∧ r.Ls.length < lim ∧ r.D.length < 64 ∧ r.D.length < lim ∧ r.R.length < lim ∧ r.R.length + r.D.length < lim ∧ r.E.length < 60 := by
  have hE := Nat.le_trans o.le z.g
  have hD := Nat.le_trans o.len z.pk
  have hR : r.R.length + r.D.length ≤ 2 * 62 := Nat.le_trans (Nat.add_le_add_right (by rw [Rm.H_len]; exact Nat.le_add_left ..) _) (Nat.le_trans o.pk (Nat.mul_le_mul_left 2 z.pk))
  have s58 : 58 < lim := by decide
  have s124 : 2 * 62 < lim := by decide
  exact ⟨Nat.lt_of_le_of_lt hE s58, Nat.lt_of_le_of_lt (Nat.le_trans o.ll z.g) s58, Nat.lt_of_le_of_lt hD (by decide), Nat.lt_of_le_of_lt (Nat.le_trans (Nat.le_add_left ..) hR) s124, Nat.lt_of_le_of_lt (Nat.le_trans (Nat.le_add_right ..) hR) s124, Nat.lt_of_le_of_lt hR s124, Nat.lt_of_le_of_lt hE (by decide)⟩
noncomputable def dropAll (r : Rm) (ps : List (Int × Int)) : Rm := ps.foldl (fun r p => rDrop r p.2 p.1) r
noncomputable def rWait (r : Rm) (t : Int) : Rm := { dropAll r (sortP (dueOf r.E (r.now + t))) with now := r.now + t }
structure Runs (r : Rm) (ps : List (Int × Int)) : Prop where
  ok : r.Ok
  lm : r.Lm
  nd : (ps.map (·.2)).Nodup
  all : ∀ p ∈ ps, ∃ v, lk r.E p.2 = some v
theorem Runs.next {p : Int × Int} {ps : List (Int × Int)} (h : Runs r (p :: ps)) : Runs (rDrop r p.2 p.1) ps := by
  obtain ⟨n1, n2⟩ := List.nodup_cons.mp h.nd
  refine ⟨ok_drop h.ok, (less_drop h.ok).lm h.lm, n2, fun p' hp' => ?_⟩
  obtain ⟨v, hv⟩ := h.all p' (List.mem_cons_of_mem _ hp')
  refine ⟨v, ?_⟩
  show lk (rm r.E p.2) p'.2 = _
  rw [lk_rm, if_neg fun q : p'.2 = p.2 => n1 (List.mem_map.mpr ⟨p', hp', q⟩)]; exact hv
theorem drops_ok : ∀ (ps : List (Int × Int)) (r : Rm), Runs r ps → (dropAll r ps).Ok ∧ Less r (dropAll r ps) ∧ ∀ p ∈ ps, lk (dropAll r ps).E p.2 = none := by
  intro ps
  induction ps with
  | nil =>
    intro _ o
    exact ⟨o.ok, .refl, fun _ h => nomatch h⟩
  | cons p ps ih =>
    intro r o
    obtain ⟨h1, h2, h3⟩ := ih (rDrop r p.2 p.1) o.next
    refine ⟨h1, (less_drop o.ok).trans h2, fun p' hp' => ?_⟩
    rcases List.mem_cons.mp hp' with rfl | hp'
    · cases hq : lk (dropAll r (p' :: ps)).E p'.2 with
      | none => rfl
      | some v =>
        have : lk (rm r.E p'.2) p'.2 = some v := h2.ends _ _ hq
        rw [lk_rm, if_pos rfl] at this; cases this
    · exact h3 p' hp'
theorem drops_tg {mine : List (Int × V)} {u : Int} : ∀ (ps : List (Int × Int)) (r : Rm) (lo : Int), Runs r ps → TG r.old (r.D, r.R) mine lo u → ps.Pairwise (fun a b => a.1 ≤ b.1) → (∀ p ∈ ps, lo ≤ p.1 ∧ p.1 ≤ u) → Tale (dropAll r ps).H mine u := by
  intro ps
  induction ps with
  | nil =>
    intro _ _ _ T _ _
    exact T.tale
  | cons p ps ih =>
    intro r lo o T hp hb
    obtain ⟨b1, b2⟩ := hb p (List.mem_cons_self ..)
    obtain ⟨p1, p2⟩ := List.pairwise_cons.mp hp
    exact ih (rDrop r p.2 p.1) p.1 o.next (tell_drop o.ok T b1 b2) p2 fun p' hp' => ⟨p1 p' hp', (hb p' (List.mem_cons_of_mem _ hp')).2⟩
theorem due_nd {u : Int} (o : r.Ok) : ((dueOf r.E u).map (·.2)).Nodup := by
  have e : (dueOf r.E u).map (·.2) = (r.E.map (·.1)).filter (dueP r.E u) := by
    unfold dueOf
    rw [List.map_map]; exact List.map_id _
  exact e ▸ o.en.sublist List.filter_sublist
theorem due_at {u : Int} {p : Int × Int} (hp : p ∈ sortP (dueOf r.E u)) : lk r.E p.2 = some p.1 ∧ p.1 ≤ u := by
  obtain ⟨k, hk, rfl⟩ := List.mem_map.mp ((sortP_perm _).mem_iff.mp hp)
  obtain ⟨h1, h2⟩ := List.mem_filter.mp hk
  obtain ⟨v, hv⟩ := lk_key h1
  refine ⟨?_, of_decide_eq_true h2⟩
  show lk r.E k = some (endAt r.E k)
  unfold endAt
  rw [hv]; rfl
theorem runs_due {u : Int} (o : r.Ok) (z : r.Lm) : Runs r (sortP (dueOf r.E u)) :=
  ⟨o, z, ((sortP_perm _).map _).nodup_iff.mpr (due_nd o), fun p hp => ⟨_, (due_at hp).1⟩⟩
theorem ok_wait {t : Int} (o : r.Ok) (z : r.Lm) (ht : ¬ t < 0) : (rWait r t).Ok ∧ Less r (rWait r t) ∧ Tells r (rWait r t) := by
  obtain ⟨h1, h2, h3⟩ := drops_ok (sortP (dueOf r.E (r.now + t))) r (runs_due o z)
  refine ⟨⟨h1.nd, h1.en, fun k v hk => ?_, h1.le, h1.ll, h1.good, h1.pk, by show 0 ≤ r.now + t; have := o.now; lia⟩, ⟨h2.g, h2.s, h2.wn, h2.ws, h2.old, h2.more, h2.ends⟩, fun mine T => ?_⟩
  · obtain ⟨⟨k1, _⟩, k3⟩ := h1.key k v hk
    refine ⟨⟨k1, ?_⟩, k3⟩
    show r.now + t < v
    by_cases q : v ≤ r.now + t
    · have hv := h2.ends k v hk
      have hm : (v, k) ∈ dueOf r.E (r.now + t) := List.mem_map.mpr ⟨k, List.mem_filter.mpr ⟨key_lk hv, decide_eq_true (by unfold endAt; rw [hv]; exact q)⟩, by unfold endAt; rw [hv]; rfl⟩
      have := h3 _ ((sortP_perm _).mem_iff.mpr hm)
      have hk : lk (dropAll r (sortP (dueOf r.E (r.now + t)))).E k = some v := hk
      rw [this] at hk; cases hk
    · lia
  · exact drops_tg _ r r.now (runs_due o z) (o.tg T (show r.now ≤ r.now + t by lia)) (sortP_up (due_nd o)) fun p hp => by
      obtain ⟨e1, e2⟩ := due_at hp
      have := (o.key _ _ e1).1.2
      exact ⟨by lia, e2⟩
noncomputable def waitB : List S := [.expr (.mcall (.attr (.var 0) "leases") "drop" [(.idx (.var 3) (.cInt 1))] [] []), .expr (.mcall (.var 0) "freed" [(.idx (.var 3) (.cInt 1)), (.idx (.var 3) (.cInt 0))] [] [])]
theorem wait_loop : ∀ (ps : List (Int × Int)) (r : Rm) (ρ : Rho) (σ : St), At σ a r q → Runs r ps → ρ 0 = some (.ref (a 0)) → ∃ ρ' S, loop (fun v ρ σ => execs P (run P (n + 4)) false true waitB (upd ρ 3 v) σ) (ps.map pairV) ρ σ = some (.next, ρ', S) ∧ At S a (dropAll r ps) q ∧ FrA a σ S ∧ ρ' 0 = ρ 0 ∧ ρ' 2 = ρ 2 := by
  intro ps
  induction ps with
  | nil =>
    intro r ρ σ A _ _
    exact ⟨ρ, σ, rfl, A, .refl, rfl, rfl⟩
  | cons p ps ih =>
    intro r ρ σ A H h0
    obtain ⟨v, hv⟩ := H.all p (List.mem_cons_self ..)
    obtain ⟨_, x, hx, _⟩ := H.ok.key _ _ hv
    obtain ⟨_, _, l4, _, _, l7, _⟩ := H.lm.lims H.ok
    have A2 : At (setA σ a [(2, .di false (vI (rm r.E p.2))), (3, .di false (vI (rm r.Ls p.2)))]) a { r with E := rm r.E p.2, Ls := rm r.Ls p.2 } q := A.sets _ (forall12 rfl rfl rfl rfl rfl rfl rfl rfl rfl rfl rfl rfl)
    obtain ⟨S, e, k1, k2⟩ := freed_run (n := n) (h := p.2) (t := p.1) A2 H.ok.nd l4 l7
    have e1 : execs P (run P (n + 4)) false true waitB (upd ρ 3 (pairV p)) σ = some (.next, upd ρ 3 (pairV p), S) := Ex.expr (M := Mh (n + 4)) (.mcall (.attr (.var h0) (attr_at (A.at_ 0) rfl)) (meth_at (A.at_ 1) rfl) (.cons (.idx (.var rfl) .cInt rfl) .nil) .nil (ldrop_run (n := n + 2) A hv hx)) (.expr (.mcall (.var h0) (meth_at (A2.at_ 0) rfl) (.cons (.idx (.var rfl) .cInt rfl) (.cons (.idx (.var rfl) .cInt rfl) .nil)) .nil e) .nil)
    obtain ⟨ρ', S', e', j1, j2, j3, j4⟩ := ih (rDrop r p.2 p.1) (upd ρ 3 (pairV p)) S k1 H.next h0
    exact ⟨ρ', S', (loop_next (f := fun v ρ σ => execs P (run P (n + 4)) false true waitB (upd ρ 3 v) σ) e1).trans e', j1, ((FrA.sets _ _).trans k2).trans j2, j3, j4⟩
theorem wait_run {t : Int} (A : At σ a r q) (o : r.Ok) (z : r.Lm) (h1 : ¬ t < 0) (h2 : ¬ 1000000 < t) : ∃ S, run P (n + 5) false "Room" "wait" [.ref (a 0), .int t] [] σ = some (.ok .none, S) ∧ At S a (rWait r t) q ∧ FrA a σ S := by
  obtain ⟨S1, e1, f1⟩ := due_run (n := n + 3) (u := r.now + t) A (z.lims o).2.2.2.2.2.2
  obtain ⟨ρ', S2, e2, A2, f2, i0, i2⟩ := wait_loop (n := n) (sortP (dueOf r.E (r.now + t))) r (upd (rhoOf [.ref (a 0), .int t]) 2 (.int (r.now + t))) S1 (A.fr f1) (runs_due o z) rfl
  unfold rWait
  generalize dropAll r (sortP (dueOf r.E (r.now + t))) = r2 at A2 ⊢
  exact ⟨_, call_at0 rfl rfl rfl (.iteF (.boolC (.cmp (.var rfl) .cInt (congrArg some (decide_eq_false h1))) rfl (.bool1 (.cmp (.var rfl) .gint (congrArg some (decide_eq_false h2))))) rfl
    (.assign (.add (.attr (.var rfl) (attr_at (A.at_ 0) rfl)) (.var rfl)) (.for1 rfl (.mcall (.attr (.var rfl) (attr_at (A.at_ 0) rfl)) (meth_at (A.at_ 1) rfl) (.cons (.var rfl) .nil) .nil e1) rfl e2
    (.setattr (.var i2) (.var i0) (setattr_at (A2.at_ 0) (show (7 : Nat) < 100 by decide)) .nil)))),
    A2.sets (r' := { r2 with now := r.now + t }) [(0, roomO (r.now + t) (a 1) (a 4) (a 6) (a 7) r2.wn (a 8))] (forall12 rfl rfl rfl rfl rfl rfl rfl rfl rfl rfl rfl rfl),
    ((FrA.of f1).trans f2).trans (FrA.sets [(0, roomO (r.now + t) (a 1) (a 4) (a 6) (a 7) r2.wn (a 8))] _)⟩
theorem wait_bad {t : Int} (hh : t < 0 ∨ 1000000 < t) : run P (n + 5) false "Room" "wait" [.ref (a 0), .int t] [] σ = some (.exc "BadTicks", σ) := by
  by_cases h1 : t < 0
  · exact call_atX rfl rfl rfl (.iteT (.boolS (.cmp (.var rfl) .cInt (congrArg some (decide_eq_true h1))) rfl) rfl .raise)
  · exact call_atX rfl rfl rfl (.iteT (.boolC (.cmp (.var rfl) .cInt (congrArg some (decide_eq_false h1))) rfl (.bool1 (.cmp (.var rfl) .gint (congrArg some (decide_eq_true (hh.resolve_left h1)))))) rfl .raise)
end
end Lw.L09
namespace Lw.L09
open PySem
noncomputable def gI : Deed → Nat
  | .grant _ => 1
  | _ => 0
noncomputable def pI : Deed → Nat
  | .put _ _ _ => 1
  | _ => 0
noncomputable def Out (r : Rm) (v : V) (r' : Rm) : Deed → Prop
  | .grant _ => v = .int (r.g + 1) ∧ r'.g = r.g + 1 ∧ r'.now = r.now ∧ Tells r r'
  | .put k x h => v = .int (r.last + 1) ∧ r' = rPut r k x h
  | .cut k _ => v = .int (r.last + 1) ∧ r' = rCut r k ∧ ∃ y, lk r.D k = some y
  | .wait t => v = .none ∧ r'.g = r.g ∧ r'.now = r.now + t ∧ Tells r r'
  | _ => v = .none ∧ r'.g = r.g ∧ r'.now = r.now ∧ Tells r r'
section
variable {a : Fin 12 → Nat} {σ S : St} {r : Rm} {q : Qm} {n : Nat}
noncomputable def Done (n : Nat) (σ : St) (a : Fin 12 → Nat) (r : Rm) (q : Qm) (d : Deed) : Prop :=
  ∃ (v : V) (S : St) (r' : Rm), run P (n + 8) false "" "_law_done" [.ref (a 0), dv d] [] σ = some (.ok v, S) ∧ At S a r' q ∧ FrA a σ S ∧ r'.Ok ∧ Grow r r' (gI d) (pI d) ∧ (((∃ s, v = .str s) ∧ r' = r) ∨ Out r v r' d)
theorem done_no {d : Deed} {c : String} (A : At σ a r q) (o : r.Ok) (hc : c ∈ ["BadTicks", "NoLease", "NoKey", "Held"]) (e : run P (n + 7) false "" "_law_call" [.ref (a 0), dv d] [] σ = some (.exc c, σ)) : Done n σ a r q d := by
  obtain ⟨S, h1, h2⟩ := done_exc (n := n + 6) hc e
  exact ⟨_, S, r, h1, A.fr h2, FrA.of h2, o, gr_same, .inl ⟨⟨_, rfl⟩, rfl⟩⟩
theorem done_grant {t : Int} (A : At σ a r q) (o : r.Ok) (z : r.Lm) : Done n σ a r q (.grant t) := by
  obtain ⟨l1, l2, _⟩ := z.lims o
  by_cases hh : t < 1 ∨ 1000000 < t
  · exact done_no A o (by decide) (call_grantX A (grant_bad (n := n + 4) A hh))
  · obtain ⟨S, e1, A1, f1⟩ := grant_run (n := n + 4) A l1 l2 (fun q => hh (.inl q)) fun q => hh (.inr q)
    exact ⟨_, S, rGrant r t, done_ok (call_grant A e1), A1, f1, ok_grant o (fun q => hh (.inl q)), gr_grant, .inr ⟨rfl, rfl, rfl, fun _ T => T⟩⟩
theorem done_drop {h : Int} (A : At σ a r q) (o : r.Ok) (z : r.Lm) : Done n σ a r q (.drop h) := by
  obtain ⟨_, _, l4, _, _, l7, _⟩ := z.lims o
  cases hv : lk r.E h with
  | none => exact done_no A o (by decide) (call_dropX A (drop_no (n := n + 1) A hv))
  | some v =>
    obtain ⟨_, x, hx, _⟩ := o.key h v hv
    obtain ⟨S, e1, A1, f1⟩ := drop_run (n := n + 1) A o.nd l4 l7 hv hx
    exact ⟨_, S, rDrop r h r.now, done_ok (call_drop A e1), A1, f1, ok_drop o, (less_drop o).grow, .inr ⟨rfl, rfl, rfl, fun _ T => (tell_drop o (o.tg T (Int.le_refl _)) (Int.le_refl _) (Int.le_refl _)).tale⟩⟩
theorem done_put {k x : Str} {h : Int} (A : At σ a r q) (o : r.Ok) (z : r.Lm) : Done n σ a r q (.put k x h) := by
  obtain ⟨_, _, _, l5, l6, _, _⟩ := z.lims o
  cases h1 : noLease r h with
  | true => exact done_no A o (by decide) (call_putX A (put_lease (n := n + 3) A h1))
  | false =>
    cases h2 : isHeld r.D k h with
    | true => exact done_no A o (by decide) (call_putX A (put_held (n := n + 3) A h1 h2))
    | false =>
      obtain ⟨ρ', S, e1, A1, f1⟩ := put_body (n := n + 3) (x := x) A l6 l5 h1 h2
      exact ⟨_, S, rPut r k x h, done_ok (call_put A e1), A1, f1, ok_put o, gr_put, .inr ⟨rfl, rfl⟩⟩
theorem done_cut {k : Str} {h : Int} (A : At σ a r q) (o : r.Ok) (z : r.Lm) : Done n σ a r q (.cut k h) := by
  obtain ⟨_, _, _, l5, l6, _, _⟩ := z.lims o
  cases h1 : noLease r h with
  | true => exact done_no A o (by decide) (call_cutX A (cut_lease (n := n + 2) A h1))
  | false =>
    cases hk : lk r.D k with
    | none => exact done_no A o (by decide) (call_cutX A (cut_nokey (n := n + 2) A h1 hk))
    | some y =>
      cases h2 : isHeld r.D k h with
      | true => exact done_no A o (by decide) (call_cutX A (cut_held (n := n + 2) A h1 hk h2))
      | false =>
        obtain ⟨ρ', S, e1, A1, f1⟩ := cut_body (n := n + 2) A l6 h1 hk h2
        exact ⟨_, S, rCut r k, done_ok (call_cut A e1), A1, f1, ok_cut o hk, gr_cut, .inr ⟨rfl, rfl, y, hk⟩⟩
theorem done_renew {h : Int} (A : At σ a r q) (o : r.Ok) (z : r.Lm) : Done n σ a r q (.renew h) := by
  obtain ⟨l1, _⟩ := z.lims o
  cases hv : lk r.E h with
  | none => exact done_no A o (by decide) (call_renewX A (renew_no (n := n + 3) A hv))
  | some v =>
    obtain ⟨_, x, hx, hx1⟩ := o.key h v hv
    obtain ⟨S, e1, A1, f1⟩ := renew_run (n := n + 3) A l1 hv hx
    exact ⟨_, S, rRenew r h x, done_ok (call_renew A e1), A1, f1, ok_renew o hv hx1, gr_renew, .inr ⟨rfl, rfl, rfl, fun _ T => T⟩⟩
theorem done_wait {t : Int} (A : At σ a r q) (o : r.Ok) (z : r.Lm) : Done n σ a r q (.wait t) := by
  by_cases hh : t < 0 ∨ 1000000 < t
  · exact done_no A o (by decide) (call_waitX A (wait_bad (n := n + 1) hh))
  · obtain ⟨S, e1, A1, f1⟩ := wait_run (n := n + 1) A o z (fun q => hh (.inl q)) fun q => hh (.inr q)
    obtain ⟨k1, k2, k3⟩ := ok_wait (t := t) o z (fun q => hh (.inl q))
    exact ⟨_, S, rWait r t, done_ok (call_wait A e1), A1, f1, k1, k2.grow, .inr ⟨rfl, k2.g, rfl, k3⟩⟩
theorem done_any {d : Deed} (A : At σ a r q) (o : r.Ok) (z : r.Lm) : Done n σ a r q d := by
  cases d with
  | grant t => exact done_grant A o z
  | renew h => exact done_renew A o z
  | drop h => exact done_drop A o z
  | wait t => exact done_wait A o z
  | put k x h => exact done_put A o z
  | cut k h => exact done_cut A o z
structure LawOk (r : Rm) (q : Qm) : Prop where
  g : q.g = r.g
  now : q.now = r.now
  tale : Tale r.H q.mine r.now
  pm : (putK r.H).length ≤ q.mine.length
theorem st_more {D : List (Int × V)} {k : Int} {v : V} (h : ∀ e ∈ D, e.1 ≠ k) : Lw.st D k v = D ++ [(k, v)] := by
  unfold Lw.st
  rw [if_neg fun z => ?_]
  obtain ⟨e, h1, h2⟩ := List.any_eq_true.mp z
  exact h e h1 (of_decide_eq_true h2)
theorem LawOk.row {r' : Rm} {w k x : Str} (o : r.Ok) (h : LawOk r q) (hg : r'.g = r.g) (hn : r'.now = r.now) (hH : r'.H = r.H ++ [Lw.row ((r.H.length : Int) + 1) r.now w k x]) (hc : w = cutS → (valH r.H k).isSome = true) (hp : (putK r'.H).length ≤ (putK r.H).length + 1) :
    LawOk r' { q with mine := Lw.st q.mine ((r.last : Int) + 1) (Lw.row ((r.last : Int) + 1) q.now w k x) } ∧ (Lw.st q.mine ((r.last : Int) + 1) (Lw.row ((r.last : Int) + 1) q.now w k x)).length = q.mine.length + 1 := by
  have hl : (r.last : Int) = r.H.length := by rw [Rm.H_len]
  have e := st_more (D := q.mine) (k := (r.last : Int) + 1) (v := Lw.row ((r.last : Int) + 1) q.now w k x) fun e he z => by
    have := (h.tale.key e he).2
    rw [hl] at z; lia
  have el : (Lw.st q.mine ((r.last : Int) + 1) (Lw.row ((r.last : Int) + 1) q.now w k x)).length = q.mine.length + 1 := by rw [e, List.length_append]; rfl
  refine ⟨⟨h.g.trans hg.symm, h.now.trans hn.symm, ?_, ?_⟩, el⟩
  · rw [hH, hn]
    refine h.tale.snoc (Tale.lo h.tale) ⟨o.now, Int.le_refl _⟩ hc (fun i hi => ?_) (fun z hz => ?_) (.inl ?_)
    · show lk (Lw.st q.mine ((r.last : Int) + 1) _) i = _
      rw [lk_st, if_neg (by rw [hl]; exact hi)]
    · have hz : z ∈ Lw.st q.mine ((r.last : Int) + 1) (Lw.row ((r.last : Int) + 1) q.now w k x) := hz
      rw [e] at hz
      rcases List.mem_append.mp hz with hz | hz
      · have := h.tale.key z hz; lia
      · cases List.mem_singleton.mp hz
        show 1 ≤ (r.last : Int) + 1 ∧ (r.last : Int) + 1 ≤ _
        rw [hl]; lia
    · show lk (Lw.st q.mine ((r.last : Int) + 1) (Lw.row ((r.last : Int) + 1) q.now w k x)) _ = _
      rw [lk_st, if_pos (by rw [hl]), hl, h.now]
  · show _ ≤ (Lw.st q.mine ((r.last : Int) + 1) (Lw.row ((r.last : Int) + 1) q.now w k x)).length
    rw [el]; have := h.pm; lia
theorem LawOk.none {r' : Rm} {now : Int} {g : Nat} {i : Nat} (w : LawOk r q) (z : Grow r r' i 0) (hg : g = r'.g) (hn : now = r'.now) (t : Tells r r') : LawOk r' { q with g := g, now := now } := ⟨hg, hn, t _ w.tale, Nat.le_trans z.pk w.pm⟩
noncomputable def Did (n : Nat) (σ : St) (a : Fin 12 → Nat) (r : Rm) (q : Qm) (d : Deed) : Prop :=
  ∃ (S : St) (r' : Rm) (q' : Qm), run P (n + 9) false "" "_law_did" [.ref (a 0), .ref (a 9), dv d] [] σ = some (.ok .none, S) ∧ At S a r' q' ∧ FrA a σ S ∧ r'.Ok ∧ LawOk r' q' ∧ Grow r r' (gI d) (pI d) ∧ q'.mine.length ≤ q.mine.length + 1 ∧ q'.ls = q.ls ∧ q'.lk = q.lk
theorem wdY {M : Mc} {ρ : Rho} {d : Deed} {x : Str} {b : Bool} (h1 : ρ 2 = some (dv d)) (hb : (wordOf d == x) = b) : Ev M ρ σ (.cmp .eq (.idx (.var 2) (.cInt 0)) (.cStr x)) (.bool b) σ := .cmp (.idx (.var h1) .cInt dv_0) .cStr (eq_words hb)
theorem mine_evv {M : Mc} {ρ : Rho} (A : At σ a r q) (h0 : ρ 1 = some (.ref (a 9))) : Ev M ρ σ (.idx (.var 1) (.cStr "mine")) (.ref (a 10)) σ := .idx (.var h0) .cStr (item_ds (A.at_ 9) rfl)
theorem now_ev {M : Mc} {ρ : Rho} (A : At σ a r q) (h0 : ρ 1 = some (.ref (a 9))) : Ev M ρ σ (.idx (.var 1) (.cStr "now")) (.int q.now) σ := .idx (.var h0) .cStr (item_ds (A.at_ 9) rfl)
theorem did_nil {d : Deed} {v : V} (e : run P (n + 8) false "" "_law_done" [.ref (a 0), dv d] [] σ = some (.ok v, S)) (hv : run P (n + 8) false "" "_law_whole" [v] [] S = some (.ok (.bool false), S)) (hw : v.isNone = true → (wordOf d == Str.ofString "wait") = false) : run P (n + 9) false "" "_law_did" [.ref (a 0), .ref (a 9), dv d] [] σ = some (.ok .none, S) := by
  generalize hρ : upd (rhoOf [.ref (a 0), .ref (a 9), dv d]) 3 v = ρ
  have p2 : ρ 2 = some (dv d) := by rw [← hρ]; rfl
  have p3 : ρ 3 = some v := by rw [← hρ]; rfl
  have w : Ev (Mh (n + 8)) ρ S (.fcall "_law_whole" [(.var 3)]) (.bool false) S := .fcall (.cons (.var p3) .nil) hv
  have c : ∀ {x : Str}, Ev (Mh (n + 8)) ρ S (.bool true [(.cmp .eq (.idx (.var 2) (.cInt 0)) (.cStr x)), (.fcall "_law_whole" [(.var 3)])]) (.bool false) S := fun {x} => by
    cases h : wordOf d == x with
    | true => exact .boolC (wdY (d := d) p2 h) rfl (.bool1 w)
    | false => exact .boolS (wdY (d := d) p2 h) rfl
  have c2 : Ev (Mh (n + 8)) ρ S (.bool true [(.cmp .eq (.idx (.var 2) (.cInt 0)) (.cStr "wait")), (.isNone (.var 3))]) (.bool false) S := by
    cases h : wordOf d == Str.ofString "wait" with
    | true =>
      have hf : v.isNone = false := by
        cases hq : v.isNone with
        | true => rw [hw hq] at h; cases h
        | false => rfl
      have := Ev.isNone (M := Mh (n + 8)) (ρ := ρ) (σ := S) (a := .var 3) (.var p3)
      rw [hf] at this
      exact .boolC (wdY (d := d) p2 h) rfl (.bool1 this)
    | false => exact .boolS (wdY (d := d) p2 h) rfl
  exact call_at0 (fn := f__law_did) (ρ := ρ) rfl rfl rfl (.assign (.fcall (.cons (.var rfl) (.cons (.var rfl) .nil)) e) (by rw [hρ]; exact .iteF c rfl (.iteF c2 rfl (.iteF c rfl (.iteF c rfl .nil)))))
theorem st_given {g g' now : Int} {f : Nat} : Lw.st [((Str.ofString "given"), .int g), ((Str.ofString "now"), .int now), ((Str.ofString "mine"), V.ref f)] (Str.ofString "given") (.int g') = [((Str.ofString "given"), .int g'), ((Str.ofString "now"), .int now), ((Str.ofString "mine"), .ref f)] := by kernel_rfl
theorem st_now {g now' now : Int} {f : Nat} : Lw.st [((Str.ofString "given"), .int g), ((Str.ofString "now"), .int now), ((Str.ofString "mine"), V.ref f)] (Str.ofString "now") (.int now') = [((Str.ofString "given"), .int g), ((Str.ofString "now"), .int now'), ((Str.ofString "mine"), .ref f)] := by kernel_rfl
theorem did_any {d : Deed} (A : At σ a r q) (o : r.Ok) (z : r.Lm) (w : LawOk r q) (hF : q.mine.length < lim) : Did n σ a r q d := by
  obtain ⟨v, S, r', e, A1, f1, o1, g1, h⟩ := done_any (n := n) (d := d) A o z
  rcases h with ⟨⟨s, rfl⟩, rfl⟩ | h
  · exact ⟨S, r', q, did_nil e (whole_str (n := n + 7)) (fun h => nomatch h), A1, f1, o1, w, g1, Nat.le_succ _, rfl, rfl⟩
  have ii : ∀ {ρ : Rho} {i : Int}, ρ 3 = some (.int i) → Ev (Mh (n + 8)) ρ S (.fcall "_law_whole" [(.var 3)]) (.bool true) S := fun {ρ i} h => .fcall (.cons (.var h) .nil) (whole_int (n := n + 7) (hd := false) (i := i))
  have start : ∀ {ρ' : Rho} {S' : St} {ρ : Rho}, upd (rhoOf [.ref (a 0), .ref (a 9), dv d]) 3 v = ρ → Ex (Mh (n + 8)) (f__law_did.body.drop 1) ρ S (some (.next, ρ', S')) → run P (n + 9) false "" "_law_did" [.ref (a 0), .ref (a 9), dv d] [] σ = some (.ok .none, S') := fun hρ h => call_at0 (fn := f__law_did) rfl rfl rfl (.assign (.fcall (.cons (.var rfl) (.cons (.var rfl) .nil)) e) (by rw [hρ]; exact h))
  obtain ⟨ρ, hρ⟩ : ∃ ρ, upd (rhoOf [.ref (a 0), .ref (a 9), dv d]) 3 v = ρ := ⟨_, rfl⟩
  have p1 : ρ 1 = some (.ref (a 9)) := by rw [← hρ]; rfl
  have p2 : ρ 2 = some (dv d) := by rw [← hρ]; rfl
  have p3 : ρ 3 = some v := by rw [← hρ]; rfl
  have wd' : ∀ {S : St} {x : Str} {b : Bool}, (wordOf d == x) = b → Ev (Mh (n + 8)) ρ S (.cmp .eq (.idx (.var 2) (.cInt 0)) (.cStr x)) (.bool b) S := fun hb => wdY p2 hb
  have no : ∀ {S : St} {x : Str} {b : E}, (wordOf d == x) = false → Ev (Mh (n + 8)) ρ S (.bool true [(.cmp .eq (.idx (.var 2) (.cInt 0)) (.cStr x)), b]) (.bool false) S := fun hb => .boolS (wd' hb) rfl
  cases d with
  | grant t =>
    obtain ⟨rfl, hg, hn, ht⟩ := h
    have A2 : At (setA S a [(9, mineO (r.g + 1) q.now (a 10))]) a r' { q with g := r.g + 1 } := A1.sets _ (forall12 rfl rfl rfl rfl rfl rfl rfl rfl rfl rfl rfl rfl)
    exact ⟨_, r', _, start hρ (.iteT (.boolC (wd' (b := true) (by kernel_rfl)) rfl (.bool1 (ii p3))) rfl (.setidx (.var p3) (.var p1) .cStr ((put_ds (A1.at_ 9) (show (3 : Nat) < lim by decide)).trans (by rw [st_given]; rfl)) (.iteF (no (by kernel_rfl)) rfl (.iteF (no (by kernel_rfl)) rfl (.iteF (no (by kernel_rfl)) rfl .nil))))), A2, f1.trans (FrA.sets _ _), o1, w.none g1 hg.symm (w.now.trans hn.symm) ht, g1, Nat.le_succ _, rfl, rfl⟩
  | renew h' => obtain ⟨rfl, hg, hn, ht⟩ := h; exact ⟨S, r', q, did_nil e (whole_none (n := n + 7)) (fun _ => by kernel_rfl), A1, f1, o1, w.none g1 (w.g.trans hg.symm) (w.now.trans hn.symm) ht, g1, Nat.le_succ _, rfl, rfl⟩
  | drop h' => obtain ⟨rfl, hg, hn, ht⟩ := h; exact ⟨S, r', q, did_nil e (whole_none (n := n + 7)) (fun _ => by kernel_rfl), A1, f1, o1, w.none g1 (w.g.trans hg.symm) (w.now.trans hn.symm) ht, g1, Nat.le_succ _, rfl, rfl⟩
  | wait t =>
    obtain ⟨rfl, hg, hn, ht⟩ := h
    have A2 : At (setA S a [(9, mineO q.g (q.now + t) (a 10))]) a r' { q with now := q.now + t } := A1.sets _ (forall12 rfl rfl rfl rfl rfl rfl rfl rfl rfl rfl rfl rfl)
    exact ⟨_, r', _, start hρ (.iteF (no (by kernel_rfl)) rfl (.iteT (.boolC (wd' (b := true) (by kernel_rfl)) rfl (.bool1 (.isNone (.var p3)))) rfl (.setidx (.add (now_ev A1 p1) (.idx (.var p2) .cInt rfl)) (.var p1) .cStr ((put_ds (A1.at_ 9) (show (3 : Nat) < lim by decide)).trans (by rw [st_now]; rfl)) (.iteF (no (by kernel_rfl)) rfl (.iteF (no (by kernel_rfl)) rfl .nil))))), A2, f1.trans (FrA.sets _ _), o1, w.none g1 (w.g.trans hg.symm) (by rw [hn, w.now]) ht, g1, Nat.le_succ _, rfl, rfl⟩
  | put k x h' =>
    obtain ⟨rfl, rfl⟩ := h
    obtain ⟨w1, w2⟩ := w.row (r' := rPut r k x h') (w := putS) (k := k) (x := x) o rfl rfl put_H (fun z => by have := cut_put; rw [show (Str.ofString "cut") = putS from z.symm, beq_self_eq_true] at this; cases this) (by rw [put_H, putK_snoc]; exact Nat.le_refl _)
    have A2 : At (setA S a [(10, .di false (Lw.st q.mine ((r.last : Int) + 1) (Lw.row ((r.last : Int) + 1) q.now putS k x)))]) a (rPut r k x h') { q with mine := Lw.st q.mine ((r.last : Int) + 1) (Lw.row ((r.last : Int) + 1) q.now putS k x) } := A1.sets _ (forall12 rfl rfl rfl rfl rfl rfl rfl rfl rfl rfl rfl rfl)
    exact ⟨_, _, _, start hρ (.iteF (no (by kernel_rfl)) rfl (.iteF (no (by kernel_rfl)) rfl (.iteT (.boolC (wd' (b := true) (by kernel_rfl)) rfl (.bool1 (ii p3))) rfl (.setidx (.tup (.cons (.var p3) (.cons (now_ev A1 p1) (.cons .cStr (.cons (.idx (.var p2) .cInt rfl) (.cons (.idx (.var p2) .cInt rfl) .nil))))) lim5) (mine_evv A1 p1) (.var p3) (put_di (A1.at_ 10) hF) (.iteF (no (by kernel_rfl)) rfl .nil))))), A2, f1.trans (FrA.sets [(10, _)] _), o1, w1, g1, Nat.le_of_eq w2, rfl, rfl⟩
  | cut k h' =>
    obtain ⟨rfl, rfl, y, hy⟩ := h
    obtain ⟨w1, w2⟩ := w.row (r' := rCut r k) (w := cutS) (k := k) (x := Str.ofString "") o rfl rfl cut_H (fun _ => by rw [← show (lk r.D k).map (·.1) = valH r.H k from o.good.val k, hy]; rfl) (by rw [cut_H, cutK_snoc]; exact Nat.le_succ _)
    have A2 : At (setA S a [(10, .di false (Lw.st q.mine ((r.last : Int) + 1) (Lw.row ((r.last : Int) + 1) q.now cutS k (Str.ofString ""))))]) a (rCut r k) { q with mine := Lw.st q.mine ((r.last : Int) + 1) (Lw.row ((r.last : Int) + 1) q.now cutS k (Str.ofString "")) } := A1.sets _ (forall12 rfl rfl rfl rfl rfl rfl rfl rfl rfl rfl rfl rfl)
    exact ⟨_, _, _, start hρ (.iteF (no (by kernel_rfl)) rfl (.iteF (no (by kernel_rfl)) rfl (.iteF (no (by kernel_rfl)) rfl (.iteT (.boolC (wd' (b := true) (by kernel_rfl)) rfl (.bool1 (ii p3))) rfl (.setidx (.tup (.cons (.var p3) (.cons (now_ev A1 p1) (.cons .cStr (.cons (.idx (.var p2) .cInt rfl) (.cons .cStr .nil))))) lim5) (mine_evv A1 p1) (.var p3) (put_di (A1.at_ 10) hF) .nil))))), A2, f1.trans (FrA.sets [(10, _)] _), o1, w1, g1, Nat.le_of_eq w2, rfl, rfl⟩
end
end Lw.L09
namespace Lw.L09
open PySem
theorem maybe {M : Mc} {ρ : Rho} {σ : St} {c e : E} {b : Bool} {k : Nat} (h : Ev M ρ σ c (.bool b) σ) (he : ∃ i : Int, Ev M ρ σ e (.int i) σ) (hk : ∃ i : Int, ρ k = some (.int i)) : ∃ i : Int, ∀ (r : List S) (R : RS), Ex M r (upd ρ k (.int i)) σ R → Ex M (.ite c [.assign k e] [] :: r) ρ σ R := by
  cases b with
  | true =>
    obtain ⟨i, hi⟩ := he
    exact ⟨i, fun r R q => .iteT h rfl (.assign hi q)⟩
  | false =>
    obtain ⟨i, hi⟩ := hk
    have e : upd ρ k (.int i) = ρ := by
      funext j
      show (if j = k then some (V.int i) else ρ j) = ρ j
      by_cases z : j = k
      · rw [if_pos z, z, hi]
      · rw [if_neg z]
    exact ⟨i, fun r R q => .iteF h rfl (by rw [e] at q; exact q)⟩
theorem two_ints {σ : St} {x y i : Int} (h0 : 0 ≤ i) (h1 : i < 2) : ∃ u : Int, (u = x ∨ u = y) ∧ idxV σ (.lst [.int x, .int y]) (.int i) = some (.int u) := by
  rcases (show i = 0 ∨ i = 1 by lia) with rfl | rfl
  · exact ⟨x, .inl rfl, rfl⟩
  · exact ⟨y, .inr rfl, rfl⟩
theorem lim3 : 3 ≤ lim := by decide
section
variable {a : Fin 12 → Nat} {σ : St} {r : Rm} {q : Qm} {n : Nat}
theorem given_ev {M : Mc} {ρ : Rho} (A : At σ a r q) (h0 : ρ 0 = some (.ref (a 9))) : Ev M ρ σ (.idx (.var 0) (.cStr "given")) (.int q.g) σ := .idx (.var h0) .cStr (item_ds (A.at_ 9) rfl)
theorem deed_at {ss : List Str} {kind cell more : Int} (A : At σ a r q) (hg : q.g ≤ 60) (h6 : ss.length = 6) : ∃ d : Deed, run P (n + 3) false "" "_law_deed" [.ref (a 9), .lst (ss.map .str), .int kind, .int cell, .int more] [] σ = some (.ok (dv d), σ) := by
  have e5 : Ev (Mh (n + 2)) (rhoOf [.ref (a 9), .lst (ss.map .str), .int kind, .int cell, .int more]) σ (.bin .mod (.var 3) (.bin .add (.idx (.var 0) (.cStr "given")) (.cInt 2))) (.int (cell % (q.g + 2))) σ := .mod (.var rfl) (.add (given_ev A rfl) .cInt) (by lia)
  obtain ⟨hand, hm⟩ := maybe (M := Mh (n + 2)) (σ := σ) (ρ := upd (rhoOf [.ref (a 9), .lst (ss.map .str), .int kind, .int cell, .int more]) 5 (.int (cell % (q.g + 2)))) (k := 5)
    (c := .cmp .eq (.bin .mod (.bin .fdiv (.var 4) (.cInt 7)) (.cInt 11)) (.cInt 0)) (e := .idx (.list false [(.neg (.cInt 1)), (.neg (.cInt 2)), (.bin .pow (.cInt 10) (.cInt 12))]) (.bin .mod (.var 3) (.cInt 3)))
    (.cmp (.mod (.fdiv (.var rfl) .cInt (by decide)) .cInt (by decide)) .cInt rfl)
    (by
      obtain ⟨u, hu⟩ := drawnI (σ := σ) (vs := [-1, -2, 10 ^ 12].map V.int) (c := cell) (k := 3) (ints_all _) (by decide) (by decide) (show (3 : Int) ≤ 3 by decide)
      exact ⟨u, .idx (.list (.cons (.neg .cInt) (.cons (.neg .cInt) (.cons (pow10 (by decide)) .nil))) lim3) (.mod (.var rfl) .cInt (by decide)) hu⟩)
    ⟨_, rfl⟩
  generalize hρ : upd (upd (rhoOf [.ref (a 9), .lst (ss.map .str), .int kind, .int cell, .int more]) 5 (.int (cell % (q.g + 2)))) 5 (.int hand) = ρ at hm
  have r1 : ρ 1 = some (.lst (ss.map .str)) := by rw [← hρ]; rfl
  have r2 : ρ 2 = some (.int kind) := by rw [← hρ]; rfl
  have r3 : ρ 3 = some (.int cell) := by rw [← hρ]; rfl
  have r4 : ρ 4 = some (.int more) := by rw [← hρ]; rfl
  have r5 : ρ 5 = some (.int hand) := by rw [← hρ]; rfl
  have k12 : Ev (Mh (n + 2)) ρ σ (.bin .mod (.var 2) (.cInt 12)) (.int (kind % 12)) σ := .mod (.var r2) .cInt (by decide)
  have cl : ∀ {j : Int} {b : Bool}, decide (kind % 12 < j) = b → Ev (Mh (n + 2)) ρ σ (.cmp .lt (.bin .mod (.var 2) (.cInt 12)) (.cInt j)) (.bool b) σ := fun hb => .cmp k12 .cInt (congrArg some hb)
  have ce : ∀ {j : Int} {b : Bool}, (kind % 12 == j) = b → Ev (Mh (n + 2)) ρ σ (.cmp .eq (.bin .mod (.var 2) (.cInt 12)) (.cInt j)) (.bool b) σ := fun hb => .cmp k12 .cInt (congrArg some hb)
  have fin : ∀ {d : Deed} {ρ' : Rho}, Ex (Mh (n + 2)) (f__law_deed.body.drop 2) ρ σ (some (.ret (dv d), ρ', σ)) → run P (n + 3) false "" "_law_deed" [.ref (a 9), .lst (ss.map .str), .int kind, .int cell, .int more] [] σ = some (.ok (dv d), σ) := fun h => call_at rfl rfl rfl (.assign e5 (hm _ _ h))
  by_cases b1 : kind % 12 < 2
  · obtain ⟨t, ht⟩ := ticks_at (σ := σ) (n + 1) cell more
    exact ⟨.grant t, fin (.iteT (cl (decide_eq_true b1)) rfl (.ret (.tup (.cons .cStr (.cons (.fcall (.cons (.var r3) (.cons (.var r4) .nil)) ht) .nil)) lim2)))⟩
  by_cases b2 : kind % 12 = 2
  · exact ⟨.renew hand, fin (.iteF (cl (decide_eq_false b1)) rfl (.iteT (ce (beq_iff_eq.mpr b2)) rfl (.ret (.tup (.cons .cStr (.cons (.var r5) .nil)) lim2))))⟩
  by_cases b3 : kind % 12 = 3
  · exact ⟨.drop hand, fin (.iteF (cl (decide_eq_false b1)) rfl (.iteF (ce (beq_eq_false_iff_ne.mpr b2)) rfl (.iteT (ce (beq_iff_eq.mpr b3)) rfl (.ret (.tup (.cons .cStr (.cons (.var r5) .nil)) lim2)))))⟩
  by_cases b4 : kind % 12 < 6
  · obtain ⟨t, ht⟩ := ticks_at (σ := σ) (n + 1) cell (more + 2)
    exact ⟨.wait (t - more % 2), fin (.iteF (cl (decide_eq_false b1)) rfl (.iteF (ce (beq_eq_false_iff_ne.mpr b2)) rfl (.iteF (ce (beq_eq_false_iff_ne.mpr b3)) rfl (.iteT (cl (decide_eq_true b4)) rfl (.ret (.tup (.cons .cStr (.cons (.sub (.fcall (.cons (.var r3) (.cons (.add (.var r4) .cInt) .nil)) ht) (.mod (.var r4) .cInt (by decide))) .nil)) lim2))))))⟩
  obtain ⟨x, hx, hi⟩ := drawn (σ := σ) (vs := ss.map V.str) (c := more) (k := 6) (by decide) (by decide) (by rw [List.length_map, h6]; decide)
  obtain ⟨key, _, rfl⟩ := List.mem_map.mp hx
  have r5' : upd ρ 6 (.str key) 5 = some (.int hand) := r5
  have k12' : Ev (Mh (n + 2)) (upd ρ 6 (.str key)) σ (.bin .mod (.var 2) (.cInt 12)) (.int (kind % 12)) σ := .mod (.var r2) .cInt (by decide)
  by_cases b5 : kind % 12 < 10
  · obtain ⟨sz, hs, e2⟩ := two_ints (σ := σ) (x := cell % 5) (y := cell % 41) (i := more / 6 % 5 / 4) (by lia) (by lia)
    obtain ⟨x, _, _, e1⟩ := text_at (σ := σ) n more sz (by lia) (by lia)
    exact ⟨.put key x hand, fin (.iteF (cl (decide_eq_false b1)) rfl (.iteF (ce (beq_eq_false_iff_ne.mpr b2)) rfl (.iteF (ce (beq_eq_false_iff_ne.mpr b3)) rfl (.iteF (cl (decide_eq_false b4)) rfl (.assign (.idx (.var r1) (.mod (.var r4) .cInt (by decide)) hi) (.iteT (.cmp k12' .cInt (congrArg some (decide_eq_true b5))) rfl
      (.ret (.tup (.cons .cStr (.cons (.var rfl) (.cons (.fcall (.cons (.var r4) (.cons (.idx (.list (.cons (.mod (.var r3) .cInt (by decide)) (.cons (.mod (.var r3) .cInt (by decide)) .nil)) lim2) (.fdiv (.mod (.fdiv (.var r4) .cInt (by decide)) .cInt (by decide)) .cInt (by decide)) e2) .nil)) e1) (.cons (.var r5') .nil)))) lim4))))))))⟩
  · exact ⟨.cut key hand, fin (.iteF (cl (decide_eq_false b1)) rfl (.iteF (ce (beq_eq_false_iff_ne.mpr b2)) rfl (.iteF (ce (beq_eq_false_iff_ne.mpr b3)) rfl (.iteF (cl (decide_eq_false b4)) rfl (.assign (.idx (.var r1) (.mod (.var r4) .cInt (by decide)) hi) (.iteF (.cmp k12' .cInt (congrArg some (decide_eq_false b5))) rfl
      (.ret (.tup (.cons .cStr (.cons (.var rfl) (.cons (.var r5') .nil))) lim3))))))))⟩
end
end Lw.L09
namespace Lw.L09
open PySem
noncomputable def wantR (b : Int) (p : Str) (v : V) : Bool := decide (b ≤ numR v) && preR p v
structure EarR (H : List V) (p : Str) (b c t : Int) (R : List V) (D : List (Str × V)) : Prop where
  t1 : t ≤ H.length
  b1 : 1 ≤ b
  bt : b ≤ t + 1
  at_ : R = (H.take t.toNat).filter (wantR b p)
  dl : D.length ≤ R.length
  cov : ∀ v ∈ H, t < numR v → numR v ≤ c → preR p v = false
section
variable {H : List V} {p : Str} {b c c' t : Int} {R : List V} {D : List (Str × V)}
theorem EarR.mono (h : EarR H p b c' t R D) (hc : c ≤ c') : EarR H p b c t R D := ⟨h.t1, h.b1, h.bt, h.at_, h.dl, fun v hv h1 h2 => h.cov v hv h1 (Int.le_trans h2 hc)⟩
theorem EarR.grow {B : List V} (h : EarR H p b c t R D) (hH : Hist (H ++ B)) (hc : c ≤ H.length) : EarR (H ++ B) p b c t R D := by
  have h1 := h.t1
  refine ⟨by rw [List.length_append]; lia, h.b1, h.bt, ?_, h.dl, fun v hv k1 k2 => ?_⟩
  · rw [List.take_append_of_le_length (by lia)]; exact h.at_
  · rcases List.mem_append.mp hv with q | q
    · exact h.cov v q k1 k2
    · obtain ⟨i, hi⟩ := List.mem_iff_getElem?.mp q
      have e : (H ++ B)[H.length + i]? = some v := by rw [List.getElem?_append_right (Nat.le_add_right ..), Nat.add_sub_cancel_left]; exact hi
      have := hH.num e
      lia
theorem EarR.skip (hH : Hist H) (o : EarR H p b c t R D) {j : Nat} (hj : t.toNat ≤ j) (h : ∀ v ∈ H, c < numR v → preR p v = true → j < numR v) : (H.take j).filter (wantR b p) = R := by
  have e2 : H.take j = H.take t.toNat ++ (H.take j).drop t.toNat := by
    have := (List.take_append_drop t.toNat (H.take j)).symm
    rw [List.take_take, Nat.min_eq_left hj] at this
    exact this
  have hbt := o.bt
  have hb1 := o.b1
  rw [e2, List.filter_append, ← o.at_, List.filter_eq_nil_iff.mpr fun u hu => ?_, List.append_nil]
  obtain ⟨i, hi⟩ := List.mem_iff_getElem?.mp hu
  rw [List.getElem?_drop] at hi
  have hlt : t.toNat + i < j := by
    have := (List.getElem?_eq_some_iff.mp hi).1
    rw [List.length_take] at this; lia
  rw [List.getElem?_take_of_lt hlt] at hi
  have hnu := hH.num hi
  have hmu := List.mem_of_getElem? hi
  show ¬ (decide (b ≤ numR u) && preR p u) = true
  cases hp : preR p u with
  | false => rw [Bool.and_false]; exact Bool.false_ne_true
  | true =>
    by_cases hc : numR u ≤ c
    · rw [o.cov u hmu (by lia) hc] at hp; cases hp
    · have := h u hmu (by lia) hp
      lia
theorem EarR.one {v : V} {r : List V} (hH : Hist H) (h : H.filter (keepR p c) = v :: r) (o : EarR H p b c t R D) (ht : t < numR v) : EarR H p b (numR v) (numR v) (R ++ [v]) (rowStep D v) := by
  obtain ⟨h1, h2, h3, h4, h5⟩ := first_keep hH h
  obtain ⟨j, hj⟩ := List.mem_iff_getElem?.mp h1
  have hn := hH.num hj
  have hl := (List.getElem?_eq_some_iff.mp hj).1
  have hbt := o.bt
  have hb1 := o.b1
  have hdl := o.dl
  refine ⟨by lia, hb1, by lia, ?_, ?_, fun u hu k1 k2 => by lia⟩
  · rw [hn, show ((j : Int) + 1).toNat = j + 1 by lia, List.take_add_one, hj]
    show R ++ [v] = List.filter (wantR b p) (H.take j ++ [v])
    rw [List.filter_append, o.skip hH (by lia) fun u hu q1 q2 => by have := h5 u hu q1 q2; lia, List.filter_cons_of_pos (by show (decide (b ≤ numR v) && preR p v) = true; rw [h3, decide_eq_true (by lia)]; rfl)]; rfl
  · have := rowStep_len (D := D) (hH.row v h1)
    rw [List.length_append]; show _ ≤ R.length + 1; lia
theorem EarR.hear (hH : Hist H) : ∀ (xs ys : List V) (c t : Int) (R : List V) (D : List (Str × V)), H.filter (keepR p c) = xs ++ ys → EarR H p b c t R D →
    EarR H p b (lastN c xs) (xs.foldl earStep (t, R, D)).1 (xs.foldl earStep (t, R, D)).2.1 (xs.foldl earStep (t, R, D)).2.2 ∧ H.filter (keepR p (lastN c xs)) = ys ∧ c ≤ lastN c xs := by
  intro xs
  induction xs with
  | nil =>
    intro ys c t R D h o
    exact ⟨o, h, Int.le_refl _⟩
  | cons v xs ih =>
    intro ys c t R D h o
    obtain ⟨h1, h2, h3, h4, h5⟩ := first_keep hH h
    rw [lastN_cons, List.foldl_cons]
    by_cases ht : t < numR v
    · rw [show earStep (t, R, D) v = (numR v, R ++ [v], rowStep D v) from if_pos ht]
      obtain ⟨k1, k2, k3⟩ := ih ys (numR v) (numR v) (R ++ [v]) (rowStep D v) h4 (o.one hH h ht)
      exact ⟨k1, k2, by lia⟩
    · rw [show earStep (t, R, D) v = (t, R, D) from if_neg ht]
      obtain ⟨k1, k2, k3⟩ := ih ys (numR v) t R D h4 ⟨o.t1, o.b1, o.bt, o.at_, o.dl, fun u hu q1 q2 => by lia⟩
      exact ⟨k1, k2, by lia⟩
theorem EarR.all (hH : Hist H) (o : EarR H p b H.length t R D) : R = H.filter (wantR b p) := by
  have h1 := o.t1
  have := o.skip hH (j := H.length) (by lia) fun v hv q1 _ => by have := (hH.bound v hv).2; lia
  rw [List.take_of_length_le (Nat.le_refl _)] at this
  exact this.symm
theorem EarR.sub (o : EarR H p b c t R D) : R.Sublist H := by
  rw [o.at_]; exact List.filter_sublist.trans (List.take_sublist ..)
theorem foldl_more : ∀ (xs : List V) (s : Int × List V × List (Str × V)), ∃ B, (xs.foldl earStep s).2.1 = s.2.1 ++ B ∧ B.length ≤ xs.length := by
  intro xs
  induction xs with
  | nil =>
    intro s
    exact ⟨[], (List.append_nil _).symm, Nat.le_refl _⟩
  | cons v xs ih =>
    intro s
    obtain ⟨B, h1, h2⟩ := ih (earStep s v)
    rw [List.foldl_cons, List.length_cons, h1]
    unfold earStep
    split
    · exact ⟨v :: B, by show (s.2.1 ++ [v]) ++ B = _; rw [List.append_assoc]; rfl, Nat.succ_le_succ h2⟩
    · exact ⟨B, rfl, Nat.le_succ_of_le h2⟩
end
theorem heard_pre {luck : Int} {found : List V} : ∃ ys, found = heardOf luck found ++ ys := by
  unfold heardOf
  split
  · exact ⟨[], (List.append_nil _).symm⟩
  · split
    · exact ⟨_, (List.take_append_drop (found.length / 2) found).symm⟩
    · exact ⟨found, rfl⟩
section
variable {r : Rm}
theorem last_H : (r.last : Int) = r.H.length := by rw [Rm.H_len]
theorem filter_old {p : Str} {c : Int} (o : r.Ok) (hc : (r.old.length : Int) ≤ c) : r.H.filter (keepR p c) = r.R.filter (keepR p c) := by
  show (r.old ++ r.R).filter _ = _
  rw [List.filter_append, List.filter_eq_nil_iff.mpr fun v hv => ?_, List.nil_append]
  obtain ⟨i, hi⟩ := List.mem_iff_getElem?.mp hv
  have hl := (List.getElem?_eq_some_iff.mp hi).1
  have hn := o.good.hist.num (i := i) (v := v) (by show (r.old ++ r.R)[i]? = _; rw [List.getElem?_append_left hl]; exact hi)
  rw [keepR_row (o.row v (List.mem_append_left _ hv)), decide_eq_false (by lia)]
  exact Bool.false_ne_true
theorem turn_ear {L : Ln} {k : Nat} {luck : Int} (o : r.Ok) (E : EarR r.H L.p L.b L.had L.taken L.R L.D) (lo : (r.old.length : Int) ≤ L.had) (hi : L.had ≤ r.H.length) :
    EarR r.H L.p L.b (L.turn r k luck).had (L.turn r k luck).taken (L.turn r k luck).R (L.turn r k luck).D ∧ L.had ≤ (L.turn r k luck).had ∧ (L.turn r k luck).had ≤ r.H.length := by
  obtain ⟨ys, hys⟩ := heard_pre (luck := luck) (found := foundOf r L k)
  have hsplit : r.H.filter (keepR L.p L.had) = foundOf r L k ++ (r.R.filter (keepR L.p L.had)).drop k := by rw [filter_old o lo]; exact (List.take_append_drop ..).symm
  have hb : ∀ xs : List V, (∀ v ∈ xs, v ∈ r.H) → lastN L.had xs ≤ r.H.length := fun xs hxs => by
    unfold lastN
    cases hl : xs.getLast? with
    | none => exact hi
    | some v => exact (o.good.hist.bound v (hxs v (List.mem_of_getLast? hl))).2
  have hfm : ∀ v ∈ foundOf r L k, v ∈ r.H := fun v hv => List.mem_append_right _ (List.mem_filter.mp (List.mem_of_mem_take hv)).1
  obtain ⟨k1, k2, k3⟩ := EarR.hear o.good.hist (heardOf luck (foundOf r L k)) (ys ++ (r.R.filter (keepR L.p L.had)).drop k) L.had L.taken L.R L.D (by rw [← List.append_assoc, ← hys]; exact hsplit) E
  by_cases q0 : luck = 0
  · have hh : heardOf luck (foundOf r L k) = foundOf r L k := if_pos (.inl q0)
    have eh : (L.turn r k luck).had = toldTo r.last L.had (foundOf r L k) k := if_pos q0
    have hys0 : ys = [] := by
      rw [hh] at hys
      exact List.append_cancel_left (hys.symm.trans (List.append_nil _).symm)
    rw [eh]
    unfold toldTo
    by_cases hm : (foundOf r L k).length < k
    · rw [if_pos hm]
      have hd : (r.R.filter (keepR L.p L.had)).drop k = [] := by
        refine List.drop_of_length_le ?_
        unfold foundOf at hm
        rw [List.length_take] at hm; lia
      rw [hys0, hd] at k2
      refine ⟨⟨k1.t1, k1.b1, k1.bt, k1.at_, k1.dl, fun v hv h1 h2 => ?_⟩, by rw [last_H]; exact hi, by rw [last_H]; exact Int.le_refl _⟩
      cases hp : preR L.p v with
      | false => rfl
      | true =>
        by_cases hc : numR v ≤ lastN L.had (heardOf luck (foundOf r L k))
        · have := k1.cov v hv h1 hc; rw [hp] at this; exact this
        · have hmem : v ∈ r.H.filter (keepR L.p (lastN L.had (heardOf luck (foundOf r L k)))) := List.mem_filter.mpr ⟨hv, by rw [keepR_row (o.row v hv), hp, decide_eq_true (by lia)]; rfl⟩
          rw [k2] at hmem; cases hmem
    · rw [if_neg hm]
      rw [hh] at k1 k3
      refine ⟨?_, k3, hb _ hfm⟩
      show EarR r.H L.p L.b _ ((heardOf luck (foundOf r L k)).foldl earStep (L.taken, L.R, L.D)).1 ((heardOf luck (foundOf r L k)).foldl earStep (L.taken, L.R, L.D)).2.1 ((heardOf luck (foundOf r L k)).foldl earStep (L.taken, L.R, L.D)).2.2
      rw [hh]; exact k1
  · have eh : (L.turn r k luck).had = L.had := if_neg q0
    rw [eh]
    exact ⟨k1.mono k3, Int.le_refl _, hi⟩
theorem turn_had {L : Ln} {k : Nat} (h : r.R.length < k) : (L.turn r k 0).had = r.last := by
  show (if (0 : Int) = 0 then toldTo r.last L.had (foundOf r L k) k else L.had) = _
  rw [if_pos rfl]
  unfold toldTo
  have hl : (foundOf r L k).length < k := Nat.lt_of_le_of_lt (Nat.le_trans (List.length_take_le' ..) (List.length_filter_le ..)) h
  rw [if_pos hl]
theorem turn_more {L : Ln} {k : Nat} {luck : Int} : ∃ B, (L.turn r k luck).R = L.R ++ B ∧ B.length ≤ k := by
  obtain ⟨B, h1, h2⟩ := foldl_more (heardOf luck (foundOf r L k)) (L.taken, L.R, L.D)
  obtain ⟨ys, hys⟩ := heard_pre (luck := luck) (found := foundOf r L k)
  have h3 : (heardOf luck (foundOf r L k)).length ≤ (foundOf r L k).length := by
    have := congrArg List.length hys
    rw [List.length_append] at this
    lia
  have h4 : (foundOf r L k).length ≤ k := List.length_take_le ..
  exact ⟨B, h1, by lia⟩
end
end Lw.L09
namespace Lw.L09
open PySem
noncomputable def wsFrom : Nat → List Nat → List (Int × V)
  | _, [] => []
  | i, w :: r => ((i : Int) + 1, .ref w) :: wsFrom (i + 1) r
theorem lk_ws : ∀ (ws : List Nat) (i j : Nat) (w : Nat), ws[j]? = some w → lk (wsFrom i ws) (((i + j : Nat) : Int) + 1) = some (.ref w)
  | [], _, _, _, h => by rw [List.getElem?_nil] at h; cases h
  | x :: ws, i, 0, w, h => by cases h; rw [wsFrom, lkCons]; exact if_pos rfl
  | x :: ws, i, j + 1, w, h => by
    rw [wsFrom, lkCons, if_neg (by show ¬ ((i : Int) + 1 = ((i + (j + 1) : Nat) : Int) + 1); lia), show ((i + (j + 1) : Nat) : Int) + 1 = ((i + 1 + j : Nat) : Int) + 1 by lia]
    exact lk_ws ws (i + 1) j w h
theorem ws_app : ∀ (ws : List Nat) (i w : Nat), wsFrom i (ws ++ [w]) = wsFrom i ws ++ [(((i + ws.length : Nat) : Int) + 1, .ref w)] := by
  intro ws
  induction ws with
  | nil =>
    intro _ _
    exact rfl
  | cons x ws ih =>
    intro i w
    show _ :: wsFrom (i + 1) (ws ++ [w]) = _ :: (wsFrom (i + 1) ws ++ _)
    rw [ih (i + 1) w, List.length_cons, show ((i + 1 + ws.length : Nat) : Int) = ((i + (ws.length + 1) : Nat) : Int) by lia]
theorem ws_keys : ∀ (ws : List Nat) (i : Nat), ∀ kv ∈ wsFrom i ws, kv.1 ≤ ((i + ws.length : Nat) : Int) := by
  intro ws
  induction ws with
  | nil =>
    intro _ _ h
    exact nomatch h
  | cons x ws ih =>
    intro i kv h
    rcases List.mem_cons.mp h with rfl | h
    · show (i : Int) + 1 ≤ _; rw [List.length_cons]; lia
    · have := ih (i + 1) kv h
      rw [List.length_cons]; lia
theorem ws_st {ws : List Nat} {w : Nat} : Lw.st (wsFrom 0 ws) ((ws.length : Int) + 1) (.ref w) = wsFrom 0 (ws ++ [w]) := by
  rw [ws_app, Nat.zero_add]
  unfold Lw.st
  rw [if_neg fun h => ?_]
  obtain ⟨kv, h1, h2⟩ := List.any_eq_true.mp h
  have := ws_keys ws 0 kv h1
  have := of_decide_eq_true h2
  lia
theorem ws_len : ∀ (ws : List Nat) (i : Nat), (wsFrom i ws).length = ws.length := by
  intro ws
  induction ws with
  | nil =>
    intro _
    exact rfl
  | cons _ ws ih =>
    intro i
    exact congrArg (· + 1) (ih (i + 1))
structure LnOk (σ : St) (a : Fin 12 → Nat) (r : Rm) (j : Nat) (L : Ln) : Prop where
  at_ : LnAt σ a ((j : Int) + 1) L
  out : L.Out σ a
  ear : EarR r.H L.p L.b L.had L.taken L.R L.D
  lo : (r.old.length : Int) ≤ L.had
  hi : L.had ≤ r.H.length
noncomputable def lnV (L : Ln) : V := .tup [.ref L.l, .str L.p, .int L.b]
structure Wd (σ : St) (a : Fin 12 → Nat) (r : Rm) (q : Qm) (Ls : List Ln) (m e : Nat) : Prop where
  lot : At σ a r q
  ok : r.Ok
  law : LawOk r q
  ls : q.ls = Ls.map lnV
  ws : r.ws = wsFrom 0 (Ls.map (·.w))
  wn : r.wn = Ls.length
  line : ∀ (j : Nat) (L : Ln), Ls[j]? = some L → LnOk σ a r j L
  far : ∀ (i j : Nat) (L M : Ln), Ls[i]? = some L → Ls[j]? = some M → i ≠ j → ∀ x ∈ L.adr, x ∉ M.adr
  g : r.g + e ≤ 50
  pk : (putK r.H).length + m ≤ 61
  f : q.mine.length + m ≤ 1000
  n5 : Ls.length ≤ 5
  zero : ∃ L, Ls[0]? = some L ∧ L.b = 1 ∧ L.p = Str.ofString ""
section
variable {σ S : St} {a : Fin 12 → Nat} {r r' : Rm} {q q' : Qm} {Ls : List Ln} {m e n : Nat}
theorem Wd.lm (W : Wd σ a r q Ls m e) : r.Lm := ⟨by have := W.g; lia, by have := W.pk; lia⟩
theorem Wd.rb (W : Wd σ a r q Ls m e) : r.H.length ≤ 122 := by
  have := W.pk
  have := W.ok.pk
  lia
theorem Wd.pos (W : Wd σ a r q Ls m e) : 0 < Ls.length := by
  obtain ⟨L, h, _⟩ := W.zero
  exact (List.getElem?_eq_some_iff.mp h).1
theorem Wd.less {k i : Nat} (W : Wd σ a r q Ls m e) (h : k ≤ m) (h2 : i ≤ e) : Wd σ a r q Ls k i := { W with g := by have := W.g; lia, pk := by have := W.pk; lia, f := by have := W.f; lia }
theorem LnOk.fr {j : Nat} {L : Ln} (k : LnOk σ a r j L) (h : FrA a σ S) : LnOk S a r j L := ⟨k.at_.keep (fun x hx => h.at_ x (k.out x hx).1 (k.out x hx).2) rfl, fun x hx => ⟨Nat.lt_of_lt_of_le (k.out x hx).1 h.n, (k.out x hx).2⟩, k.ear, k.lo, k.hi⟩
theorem Wd.fr (W : Wd σ a r q Ls m e) (h : Fr [] σ S) : Wd S a r q Ls m e := { W with lot := W.lot.fr h, line := fun j L hj => (W.line j L hj).fr (.of h) }
theorem Wd.deed {i j : Nat} (W : Wd σ a r q Ls (m + 1) (e + i)) (A : At S a r' q') (f : FrA a σ S) (o : r'.Ok) (w : LawOk r' q') (z : Grow r r' i j) (hj : j ≤ 1) (hF : q'.mine.length ≤ q.mine.length + 1) (hl : q'.ls = q.ls) : Wd S a r' q' Ls m e := by
  obtain ⟨B, hB⟩ := z.more
  have hH : r'.H = r.H ++ B := by show r'.old ++ r'.R = (r.old ++ r.R) ++ B; rw [z.old, hB, List.append_assoc]
  have h1 := z.g
  have h2 := z.pk
  refine ⟨A, o, w, hl.trans W.ls, z.ws.trans W.ws, z.wn.trans W.wn, fun j L hj => ?_, W.far, by have := W.g; lia, by have := W.pk; lia, by have := W.f; lia, W.n5, W.zero⟩
  have k := (W.line j L hj).fr f
  have khi := k.hi
  exact ⟨k.at_, k.out, by rw [hH]; exact k.ear.grow (hH ▸ o.good.hist) k.hi, by rw [z.old]; exact k.lo, by rw [hH, List.length_append]; lia⟩
theorem map_set {α : Type} {f : Ln → α} {j : Nat} {L M : Ln} (hj : Ls[j]? = some L) (h : f M = f L) : (Ls.set j M).map f = Ls.map f := by
  rw [List.map_set, h]
  refine List.ext_getElem? fun i => ?_
  rw [List.getElem?_set]
  by_cases e : j = i
  · subst e
    rw [if_pos rfl, List.getElem?_map, hj]
    rw [if_pos (by rw [List.length_map]; exact (List.getElem?_eq_some_iff.mp hj).1)]; rfl
  · rw [if_neg e]
theorem set_get {j i : Nat} {L M N : Ln} (hj : Ls[j]? = some L) (hi : (Ls.set j M)[i]? = some N) : (i = j ∧ N = M) ∨ (i ≠ j ∧ Ls[i]? = some N) := by
  rw [List.getElem?_set] at hi
  by_cases e : j = i
  · rw [if_pos e, if_pos (e ▸ (List.getElem?_eq_some_iff.mp hj).1)] at hi
    cases hi; exact .inl ⟨e.symm, rfl⟩
  · rw [if_neg e] at hi; exact .inr ⟨fun z => e z.symm, hi⟩
theorem Wd.turn {j k : Nat} {L : Ln} {luck : Int} (W : Wd σ a r q Ls m e) (hj : Ls[j]? = some L) : ∃ S, run P (n + 4) false "Line" "turn" [.ref L.l, .int k, .int luck] [] σ = some (.ok (.int (((L.turn r k luck).R.length : Int) - L.R.length)), S) ∧ Wd S a r q (Ls.set j (L.turn r k luck)) m e ∧ Fr [L.w, L.e, L.rw, L.sd] σ S := by
  have K := W.line j L hj
  have hR := W.rb
  have hs := K.ear.sub.length_le
  have hdl := K.ear.dl
  have hla := Rm.H_len (r := r)
  have hv : lk r.ws ((j : Int) + 1) = some (.ref L.w) := by
    have := lk_ws (Ls.map (·.w)) 0 j L.w (by rw [List.getElem?_map, hj]; rfl)
    rw [Nat.zero_add] at this
    rw [W.ws]; exact this
  obtain ⟨S, e1, A1, B1, f1⟩ := turn_run (n := n) (k := (j : Int) + 1) (luck := luck) (m := k) W.lot K.at_ K.out (fun v hv => W.ok.row v (List.mem_append_right _ hv)) (by unfold lim; lia) hv (by unfold lim; lia) (by unfold lim; lia)
  have hsub : ∀ x ∈ [L.w, L.e, L.rw, L.sd], x ∈ L.adr := fun x hx => List.mem_cons_of_mem _ hx
  obtain ⟨E1, E2, E3⟩ := turn_ear (k := k) (luck := luck) W.ok K.ear K.lo K.hi
  refine ⟨S, e1, ⟨A1, W.ok, W.law, W.ls.trans (map_set (f := lnV) (M := L.turn r k luck) hj rfl).symm, W.ws.trans (by rw [map_set (f := (·.w)) (M := L.turn r k luck) hj rfl]), W.wn.trans (by rw [List.length_set]), fun i M hi => ?_, fun i i' M M' hi hi' hne x hx => ?_, W.g, W.pk, W.f, by rw [List.length_set]; exact W.n5, ?_⟩, f1⟩
  · rcases set_get hj hi with ⟨rfl, rfl⟩ | ⟨hne, hi⟩
    · exact ⟨B1, fun x hx => ⟨Nat.lt_of_lt_of_le (K.out x hx).1 f1.n, (K.out x hx).2⟩, E1, Int.le_trans K.lo E2, E3⟩
    · have M1 := W.line i M hi
      exact ⟨M1.at_.keep (fun x hx => f1.at_ x (M1.out x hx).1 fun z => W.far i j M L hi hj hne x hx (hsub x z)) rfl, fun x hx => ⟨Nat.lt_of_lt_of_le (M1.out x hx).1 f1.n, (M1.out x hx).2⟩, M1.ear, M1.lo, M1.hi⟩
  · rcases set_get hj hi with ⟨e1, rfl⟩ | ⟨h1, hi2⟩
    · rcases set_get hj hi' with ⟨e2, rfl⟩ | ⟨h2, hi3⟩
      · exact absurd (e1.trans e2.symm) hne
      · exact W.far j i' L M' hj hi3 (fun z => hne (e1.trans z)) x hx
    · rcases set_get hj hi' with ⟨e2, rfl⟩ | ⟨h2, hi3⟩
      · exact W.far i j M L hi2 hj h1 x hx
      · exact W.far _ _ M M' hi2 hi3 hne x hx
  · obtain ⟨M, h0, h1, h2⟩ := W.zero
    by_cases z : j = 0
    · subst z
      rw [h0] at hj; cases hj
      exact ⟨L.turn r k luck, by rw [List.getElem?_set, if_pos rfl, if_pos W.pos], h1, h2⟩
    · exact ⟨M, by rw [List.getElem?_set, if_neg z]; exact h0, h1, h2⟩
end
end Lw.L09
namespace Lw.L09
open PySem
noncomputable def wsH : Nat → List Ln → List (Int × Int)
  | _, [] => []
  | i, L :: r => ((i : Int) + 1, L.had) :: wsH (i + 1) r
theorem wsH_keys : ∀ (Ls : List Ln) (i : Nat), (wsFrom i (Ls.map (·.w))).map (fun kv => V.int kv.1) = (wsH i Ls).map fun kh => V.int kh.1 := by
  intro Ls
  induction Ls with
  | nil =>
    intro _
    exact rfl
  | cons L Ls ih =>
    intro i
    show V.int _ :: (wsFrom (i + 1) (Ls.map (·.w))).map _ = V.int _ :: (wsH (i + 1) Ls).map _
    rw [ih (i + 1)]
theorem wsH_mem : ∀ (Ls : List Ln) (i : Nat) (kh : Int × Int), kh ∈ wsH i Ls → ∃ (j : Nat) (L : Ln), Ls[j]? = some L ∧ kh = (((i + j : Nat) : Int) + 1, L.had) := by
  intro Ls
  induction Ls with
  | nil =>
    intro _ _ h
    exact nomatch h
  | cons L Ls ih =>
    intro i kh h
    rcases List.mem_cons.mp h with rfl | h
    · exact ⟨0, L, rfl, rfl⟩
    · obtain ⟨j, M, h1, h2⟩ := ih (i + 1) kh h
      exact ⟨j + 1, M, h1, by rw [h2, show i + 1 + j = i + (j + 1) by lia]⟩
theorem mem_wsH : ∀ (Ls : List Ln) (i j : Nat) (L : Ln), Ls[j]? = some L → (((i + j : Nat) : Int) + 1, L.had) ∈ wsH i Ls
  | [], _, _, _, h => by rw [List.getElem?_nil] at h; cases h
  | M :: Ls, i, 0, L, h => by cases h; exact List.mem_cons_self ..
  | M :: Ls, i, j + 1, L, h => by
    have := mem_wsH Ls (i + 1) j L h
    rw [show i + 1 + j = i + (j + 1) by lia] at this
    exact List.mem_cons_of_mem _ this
section
variable {σ S : St} {a : Fin 12 → Nat} {r r' : Rm} {q q' : Qm} {Ls : List Ln} {m e n : Nat}
theorem Wd.trim (W : Wd σ a r q Ls m e) : ∃ S a' i r', run P (n + 3) false "Room" "trim" [.ref (a 0)] [] σ = some (.ok (.int i), S) ∧ Wd S a' r' q Ls m e ∧ (∀ i, i ≠ 5 → a' i = a i) := by
  have hW : WsAt σ r (wsH 0 Ls) := by
    refine ⟨by rw [W.ws]; exact wsH_keys Ls 0, fun kh hk => ?_⟩
    obtain ⟨j, L, h1, rfl⟩ := wsH_mem Ls 0 kh hk
    refine ⟨L.w, L.p, L.had, ?_, (W.line j L h1).at_.wat⟩
    rw [W.ws]; exact lk_ws (Ls.map (·.w)) 0 j L.w (by rw [List.getElem?_map, h1]; rfl)
  have h0 : ∀ kh ∈ wsH 0 Ls, (r.old.length : Int) ≤ kh.2 := fun kh hk => by
    obtain ⟨j, L, h1, rfl⟩ := wsH_mem Ls 0 kh hk
    exact (W.line j L h1).lo
  obtain ⟨S, a', e, A1, f1, g1, g2⟩ := trim_run (n := n) W.lot hW h0
  have hu0 : (r.old.length : Int) ≤ minAll (wsH 0 Ls) r.last := le_minAll _ _ (by show (r.old.length : Int) ≤ ((r.old.length + r.R.length : Nat) : Int); lia) h0
  obtain ⟨hu1, hu2⟩ := minAll_le (wsH 0 Ls) r.last
  have hla : (r.last : Int) = (r.old.length : Int) + (r.R.length : Int) := Int.natCast_add ..
  generalize minAll (wsH 0 Ls) r.last = u at e A1 hu0 hu1 hu2
  obtain ⟨d, rfl⟩ := Int.le.dest hu0
  have ed : ((r.old.length : Int) + d - r.old.length).toNat = d := by rw [Int.add_comm, Int.add_sub_cancel]; rfl
  rw [ed] at A1
  have hol : ((rTrim r d).old.length : Int) = (r.old.length : Int) + d := by
    show ((r.old ++ r.R.take d).length : Int) = _
    rw [List.length_append, List.length_take, Nat.min_eq_left (Int.ofNat_le.mp (Int.le_of_add_le_add_left (hla ▸ hu1)))]; rfl
  have hH := rTrim_H (r := r) (m := d)
  have ha' : ∀ x, x < σ.n → (∀ i, x ≠ a i) → ∀ i, x ≠ a' i := fun x hx hxa i => by
    by_cases e5 : i = 5
    · rw [e5]
      rcases g2 with z | z
      · rw [z]; exact hxa 5
      · rw [z]; exact Nat.ne_of_lt hx
    · rw [g1 i e5]; exact hxa i
  refine ⟨S, a', _, _, e, ⟨A1, ⟨W.ok.nd, W.ok.en, W.ok.key, W.ok.le, W.ok.ll, ⟨by show Hist (rTrim r _).H; rw [hH]; exact W.ok.good.hist, fun k => by show _ = valH (rTrim r _).H k; rw [hH]; exact W.ok.good.val k⟩, by rw [hH]; exact W.ok.pk, W.ok.now⟩, ⟨W.law.g, W.law.now, by rw [hH]; exact W.law.tale, by rw [hH]; exact W.law.pm⟩, W.ls, W.ws, W.wn, fun j L hj => ?_, W.far, W.g, by rw [hH]; exact W.pk, W.f, W.n5, W.zero⟩, g1⟩
  have k := W.line j L hj
  refine ⟨k.at_.keep (fun x hx => f1.at_ x (k.out x hx).1 (k.out x hx).2) (g1 0 (by decide)), fun x hx => ⟨Nat.lt_of_lt_of_le (k.out x hx).1 f1.n, ha' x (k.out x hx).1 (k.out x hx).2⟩, by rw [hH]; exact k.ear, by rw [hol]; exact hu2 _ (mem_wsH Ls 0 j L hj), by rw [hH]; exact k.hi⟩
noncomputable def newLn (σ : St) (p : Str) (s : Int) : Ln := ⟨σ.n, σ.n + 1, σ.n + 2, σ.n + 3, σ.n + 4, p, s - 1, s - 1, [], [], s⟩
theorem linit_run {p : Str} {s : Int} (A : At σ a r q) (hw : r.ws.length < lim) (h1 : ¬ s < (r.old.length : Int) + 1) (h2 : ¬ (r.last : Int) + 1 < s) : ∃ S, run P (n + 4) false "Line" "__init__" [.ref σ.n, .ref (a 0), .str p, .int s] [] (σ.new (.inst "Line" [])) = some (.ok .none, S) ∧ At S a (rWatch r (σ.n + 1)) q ∧ LnAt S a (r.wn + 1) (newLn σ p s) ∧ FrA a σ S ∧ S.n = σ.n + 5 := by
  have nA : ∀ i, σ.n ≠ a i := fun i => Nat.ne_of_gt (A.lt i)
  have f1 : Fr [] σ ((σ.new (.inst "Line" [])).set σ.n (.inst "Line" [("room", .ref (a 0))])) := Fr.set (Fr.new Fr.refl) (.inr (Nat.le_refl _))
  have A1 := A.fr f1
  have g1 : ((σ.new (.inst "Line" [])).set σ.n (.inst "Line" [("room", .ref (a 0))])).get σ.n = some (.inst "Line" [("room", .ref (a 0))]) := get_set_eq
  have n1 : ((σ.new (.inst "Line" [])).set σ.n (.inst "Line" [("room", .ref (a 0))])).n = σ.n + 1 := rfl
  have sa1 : setattrV (.ref σ.n) "room" (.ref (a 0)) (σ.new (.inst "Line" [])) = some ((σ.new (.inst "Line" [])).set σ.n (.inst "Line" [("room", .ref (a 0))])) := setattr_at get_new_eq (by decide)
  generalize (σ.new (.inst "Line" [])).set σ.n (.inst "Line" [("room", .ref (a 0))]) = T1 at f1 A1 g1 n1 sa1
  obtain ⟨S2, e2, A2, w2, f2, n2⟩ := watch_run (n := n) (p := p) (s := s) A1 hw h1 h2
  rw [n1] at A2 w2 n2
  have g2 : S2.get σ.n = some (.inst "Line" [("room", .ref (a 0))]) := (f2.at_ σ.n (by lia) nA).trans g1
  have A3 : At (S2.set σ.n (.inst "Line" [("room", .ref (a 0)), ("watcher", .int ((r.wn : Int) + 1))])) a (rWatch r (σ.n + 1)) q := A2.keep (fun i => get_set_ne (nA i).symm) (Nat.le_refl _)
  have g3 : (S2.set σ.n (.inst "Line" [("room", .ref (a 0)), ("watcher", .int ((r.wn : Int) + 1))])).get σ.n = some (.inst "Line" [("room", .ref (a 0)), ("watcher", .int ((r.wn : Int) + 1))]) := get_set_eq
  have w3 : (S2.set σ.n (.inst "Line" [("room", .ref (a 0)), ("watcher", .int ((r.wn : Int) + 1))])).get (σ.n + 1) = some (watO p (s - 1) (s - 1)) := (get_set_ne (by lia)).trans w2
  have n3 : (S2.set σ.n (.inst "Line" [("room", .ref (a 0)), ("watcher", .int ((r.wn : Int) + 1))])).n = σ.n + 2 := n2
  have sa3 : setattrV (.ref σ.n) "watcher" (.int ((r.wn : Int) + 1)) S2 = some (S2.set σ.n (.inst "Line" [("room", .ref (a 0)), ("watcher", .int ((r.wn : Int) + 1))])) := setattr_at g2 (show (1 : Nat) < 100 by decide)
  have o3 : ∀ j, j < σ.n → (∀ i, j ≠ a i) → (S2.set σ.n (.inst "Line" [("room", .ref (a 0)), ("watcher", .int ((r.wn : Int) + 1))])).get j = σ.get j := fun j hj ha => (get_set_ne (Nat.ne_of_lt hj)).trans ((f2.at_ j (by lia) ha).trans (f1.at_ j hj (fun z => nomatch z)))
  generalize S2.set σ.n (.inst "Line" [("room", .ref (a 0)), ("watcher", .int ((r.wn : Int) + 1))]) = T3 at A3 g3 w3 n3 sa3 o3
  obtain ⟨S4, e4, E4, n4, o4⟩ := einit_at (σ := T3) (n := n + 2) (b := s)
  rw [n3] at E4 n4
  have g4 : S4.get σ.n = some (.inst "Line" [("room", .ref (a 0)), ("watcher", .int ((r.wn : Int) + 1))]) := (o4 σ.n (by lia)).trans g3
  have sa5 : setattrV (.ref σ.n) "ear" (.ref T3.n) S4 = some (S4.set σ.n (lineO (a 0) ((r.wn : Int) + 1) (σ.n + 2))) := by rw [n3]; exact setattr_at g4 (show (2 : Nat) < 100 by decide)
  have keep : ∀ j, j ≠ σ.n → (S4.set σ.n (lineO (a 0) ((r.wn : Int) + 1) (σ.n + 2))).get j = S4.get j := fun j hj => get_set_ne hj
  exact ⟨S4.set σ.n (lineO (a 0) ((r.wn : Int) + 1) (σ.n + 2)), call_at0 rfl rfl rfl (.setattr (.var rfl) (.var rfl) sa1 (.setattr (.mcall (.var rfl) (meth_at (A1.at_ 0) rfl) (.cons (.var rfl) (.cons (.var rfl) .nil)) .nil e2) (.var rfl) sa3 (.setattr (.new (.cons (.var rfl) (.cons (.var rfl) .nil)) .nil e4) (.var rfl) sa5 .nil))), A3.keep (fun i => (keep _ (nA i).symm).trans (o4 _ (A3.lt i))) (by show T3.n ≤ S4.n; lia), ⟨get_set_eq, (keep (σ.n + 1) (by lia)).trans ((o4 _ (by lia)).trans w3), E4.keep fun j hj => keep j (by show j ≠ σ.n; have hj : j = σ.n + 2 ∨ j = σ.n + 2 + 1 ∨ j = σ.n + 2 + 2 := hj; lia)⟩, ⟨by show σ.n ≤ S4.n; lia, fun j hj ha => (keep j (Nat.ne_of_lt hj)).trans ((o4 j (by lia)).trans (o3 j hj ha))⟩, by show S4.n = _; lia⟩
theorem new_ear {H : List V} {p : Str} {s : Int} (hH : Hist H) (h1 : 1 ≤ s) (h2 : s ≤ (H.length : Int) + 1) : EarR H p s (s - 1) (s - 1) [] [] := by
  obtain ⟨m, hm⟩ := Int.eq_ofNat_of_zero_le (Int.sub_nonneg_of_le h1)
  have hs : s = (m : Int) + 1 := (Int.sub_add_cancel s 1).symm.trans (by rw [hm])
  rw [hm]
  subst hs
  refine ⟨Int.le_of_add_le_add_right h2, h1, Int.le_refl _, (List.filter_eq_nil_iff.mpr fun v hv => ?_).symm, Nat.le_refl _, fun v hv k1 k2 => absurd (Int.lt_of_lt_of_le k1 k2) (Int.lt_irrefl _)⟩
  obtain ⟨i, hi⟩ := List.mem_iff_getElem?.mp hv
  have hl : i < m := Nat.lt_of_lt_of_le (List.getElem?_eq_some_iff.mp hi).1 (List.length_take_le ..)
  rw [show ((m : Int)).toNat = m from rfl, List.getElem?_take_of_lt hl] at hi
  show ¬ (decide ((m : Int) + 1 ≤ numR v) && _) = true
  rw [hH.num hi, decide_eq_false fun q => Nat.not_le_of_lt hl (Int.ofNat_le.mp (Int.le_of_add_le_add_right q))]; exact Bool.false_ne_true
theorem app_get {L M : Ln} {j : Nat} (hj : (Ls ++ [M])[j]? = some L) : Ls[j]? = some L ∨ (j = Ls.length ∧ L = M) := by
  rcases Nat.lt_trichotomy j Ls.length with h | h | h
  · rw [List.getElem?_append_left h] at hj; exact .inl hj
  · subst h
    rw [List.getElem?_append_right (Nat.le_refl _), Nat.sub_self] at hj
    cases hj; exact .inr ⟨rfl, rfl⟩
  · rw [List.getElem?_append_right (Nat.le_of_lt h), List.getElem?_eq_none (Nat.sub_pos_of_lt h)] at hj; cases hj
theorem Wd.begin_ {p : Str} {s : Int} (W : Wd σ a r q Ls m e) (h5 : Ls.length < 5) (h1 : ¬ s < (r.old.length : Int) + 1) (h2 : ¬ (r.last : Int) + 1 < s) : ∃ S, run P (n + 4) false "Line" "__init__" [.ref σ.n, .ref (a 0), .str p, .int s] [] (σ.new (.inst "Line" [])) = some (.ok .none, S) ∧ Wd (S.set (a 11) (.list q.lk (q.ls ++ [lnV (newLn σ p s)]))) a (rWatch r (σ.n + 1)) { q with ls := q.ls ++ [lnV (newLn σ p s)] } (Ls ++ [newLn σ p s]) m e ∧ S.get (a 11) = some (.list q.lk q.ls) := by
  have hwl : r.ws.length < lim := by rw [W.ws, ws_len, List.length_map]; unfold lim; lia
  obtain ⟨S, e1, A1, B1, f1, n1⟩ := linit_run (n := n) (p := p) W.lot hwl h1 h2
  have nA : ∀ i, σ.n ≤ a i → False := fun i h => by have := W.lot.lt i; lia
  have A2 : At (setA S a [(11, .list q.lk (q.ls ++ [lnV (newLn σ p s)]))]) a (rWatch r (σ.n + 1)) { q with ls := q.ls ++ [lnV (newLn σ p s)] } := A1.sets _ (forall12 rfl rfl rfl rfl rfl rfl rfl rfl rfl rfl rfl rfl)
  have hla := last_H (r := r)
  have hge : ∀ x ∈ (newLn σ p s).adr, σ.n ≤ x ∧ x < σ.n + 5 := fun x hx => by
    simp only [Ln.adr, newLn, List.mem_cons, List.not_mem_nil, or_false] at hx
    rcases hx with rfl | rfl | rfl | rfl | rfl
    · exact ⟨Nat.le_refl _, Nat.lt_add_of_pos_right (by decide)⟩
    all_goals exact ⟨Nat.le_add_right .., Nat.add_lt_add_left (by decide) _⟩
  have f2 : FrA a σ (S.set (a 11) (.list q.lk (q.ls ++ [lnV (newLn σ p s)]))) := f1.trans (FrA.sets [(11, _)] S)
  refine ⟨S, e1, ⟨A2, { W.ok with }, { W.law with }, by show q.ls ++ _ = _; rw [W.ls, List.map_append]; rfl, ?_, by show r.wn + 1 = _; rw [W.wn, List.length_append]; rfl, fun j L hj => ?_, fun i j L M hi hj hne x hx hxm => ?_, W.g, W.pk, W.f, by rw [List.length_append]; exact h5, ?_⟩, A1.at_ 11⟩
  · show Lw.st r.ws ((r.wn : Int) + 1) (.ref (σ.n + 1)) = _
    have := ws_st (ws := Ls.map (·.w)) (w := σ.n + 1)
    rw [List.length_map] at this
    rw [W.ws, W.wn, List.map_append]; exact this
  · rcases app_get hj with hj | ⟨rfl, rfl⟩
    · exact { (W.line j L hj).fr f2 with }
    · rw [W.wn] at B1
      exact ⟨B1.keep (fun x hx => get_set_ne fun z => nA 11 (z ▸ (hge x hx).1)) rfl, fun x hx => ⟨by show x < S.n; have := (hge x hx).2; lia, fun i z => nA i (z ▸ (hge x hx).1)⟩, new_ear W.ok.good.hist (show (1 : Int) ≤ s by lia) (show s ≤ (r.H.length : Int) + 1 by lia), by show (r.old.length : Int) ≤ s - 1; lia, by show s - 1 ≤ (r.H.length : Int); lia⟩
  · rcases app_get hi with hi2 | ⟨e1, rfl⟩
    · rcases app_get hj with hj2 | ⟨e2, rfl⟩
      · exact W.far i j L M hi2 hj2 hne x hx hxm
      · have := ((W.line i L hi2).out x hx).1
        have := (hge x hxm).1
        lia
    · rcases app_get hj with hj2 | ⟨e2, rfl⟩
      · have := ((W.line j M hj2).out x hxm).1
        have := (hge x hx).1
        lia
      · exact hne (e1.trans e2.symm)
  · obtain ⟨M, h0, h3⟩ := W.zero
    exact ⟨M, by rw [List.getElem?_append_left W.pos]; exact h0, h3⟩
end
end Lw.L09
namespace Lw
open PySem
theorem Ex.forZ {M : Mc} {ρ ρ' : Rho} {σ σ₁ σ₂ : St} {a b : E} {x : V} {xs ys : List V} {k1 k2 : Nat} {tb r : List S} {R : RS} (hh : M.hd = false) (h : Evs M ρ σ [a, b] [x, .lst ys] σ₁) (hs : seqOf σ₁ x = some xs) (hl : loop (fun v ρ σ => onO (asg2 k1 k2 v ρ) fun ρ' => execs M.P M.cl false M.dr tb ρ' σ) (zipV xs ys) ρ (lockV σ₁ x) = some (.next, ρ', σ₂)) (q : Ex M r ρ' (unlockV σ₁ x σ₂) R) : Ex M (.forZ k1 k2 a b tb :: r) ρ σ R := by
  obtain ⟨P, cl, hd, dr⟩ := M
  cases hh
  have e : exec P cl false dr (.forZ k1 k2 a b tb) ρ σ = some (.next, ρ', unlockV σ₁ x σ₂) := by
    show okRs (evs P cl false [a, b] ρ σ) _ = _
    rw [show evs P cl false [a, b] ρ σ = some (.ok [x, .lst ys], σ₁) from h]
    show onO (seqOf σ₁ x) (fun xs => loopEnd false σ₁ x (loop (fun v ρ σ => onO (asg2 k1 k2 v ρ) fun ρ' => execs P cl false dr tb ρ' σ) (zipV xs ys) ρ (lockV σ₁ x))) = _
    rw [hs]
    show loopEnd false σ₁ x (loop (fun v ρ σ => onO (asg2 k1 k2 v ρ) fun ρ' => execs P cl false dr tb ρ' σ) (zipV xs ys) ρ (lockV σ₁ x)) = _
    rw [hl]; rfl
  exact (bS e).trans q
theorem Ev.chainT {M : Mc} {ρ : Rho} {σ : St} {a b c : E} {x y z : V} {t : Bool} (ha : Ev M ρ σ a x σ) (hb : Ev M ρ σ b y σ) (h1 : cmpV σ .le x y = some true) (hc : Ev M ρ σ c z σ) (h2 : cmpV σ .le y z = some t) : Ev M ρ σ (.chain a b c) (.bool t) σ :=
  (bM ha).trans ((bM hb).trans ((oO h1).trans ((bM hc).trans (rB h2))))
end Lw
namespace Lw.L09
open PySem
theorem lim7 : (7 : Nat) ≤ lim := by decide
theorem prefix_at {σ : St} {n : Nat} {ss : List Str} (h6 : ss.length = 6) (hl : ∀ (j : Nat) (x : Str), ss[j]? = some x → j ≠ 2 → x.length ≤ 20) (c : Int) : ∃ p : Str, p.length ≤ 20 ∧ run P (n + 1) false "" "_law_prefix" [.lst (ss.map .str), .int c] [] σ = some (.ok (.str p), σ) := by
  match ss, h6, hl with
  | [s0, s1, s2, s3, s4, s5], _, hl =>
    obtain ⟨x, hx, hi⟩ := drawn (σ := σ) (vs := [.str (Str.ofString ""), .str (Str.ofString ""), .str s0, .str s3, .str s1, .str ⟨(s4.cps.toList.take 1).toArray⟩, .str s5]) (c := c) (k := 7) (by decide) (by decide) (by show (7 : Int) ≤ 7; decide)
    have hx2 : ∃ p : Str, p.length ≤ 20 ∧ x = .str p := by
      simp only [List.mem_cons, List.not_mem_nil, or_false] at hx
      rcases hx with rfl | rfl | rfl | rfl | rfl | rfl | rfl
      · exact ⟨_, by show (Str.ofString "").cps.size ≤ 20; decide +kernel, rfl⟩
      · exact ⟨_, by show (Str.ofString "").cps.size ≤ 20; decide +kernel, rfl⟩
      · exact ⟨_, hl 0 _ rfl (by decide), rfl⟩
      · exact ⟨_, hl 3 _ rfl (by decide), rfl⟩
      · exact ⟨_, hl 1 _ rfl (by decide), rfl⟩
      · refine ⟨_, ?_, rfl⟩
        show (s4.cps.toList.take 1).toArray.size ≤ 20
        rw [List.size_toArray, List.length_take]; lia
      · exact ⟨_, hl 5 _ rfl (by decide), rfl⟩
    obtain ⟨p, hp, rfl⟩ := hx2
    exact ⟨p, hp, call_at rfl rfl rfl (.ret (.idx (.list (.cons .cStr (.cons .cStr (.cons (.idx (.var rfl) .cInt rfl) (.cons (.idx (.var rfl) .cInt rfl) (.cons (.idx (.var rfl) .cInt rfl) (.cons (.slice (.idx (.var rfl) .cInt rfl) .cNone .cInt (slice_to (m := 1))) (.cons (.idx (.var rfl) .cInt rfl) .nil))))))) lim7) (.mod (.var rfl) .cInt (by decide)) hi))⟩
theorem slice_1 {σ : St} {t : Nat} {l : Bool} {vs : List V} (h : σ.get t = some (.list l vs)) : sliceV false (.ref t) (.int 1) .none σ = some (.ok (.lst (vs.drop 1)), σ) := by
  show onO (listAt σ t) _ = _
  rw [listAt_of h]
  show some (Res.ok (V.lst (cutL vs (min 1 vs.length) vs.length)), σ) = _
  have e2 : cutL vs (min 1 vs.length) vs.length = vs.drop 1 := by
    unfold cutL
    rw [List.take_of_length_le (Nat.le_refl _)]
    cases vs with
    | nil => rfl
    | cons v vs => rw [Nat.min_eq_left (by rw [List.length_cons]; lia)]
  rw [e2]
noncomputable def zB : List S := [.ite (.bool false [(.not (.fcall "_law_change" [(.var 7)])), (.cmp .ge (.idx (.var 6) (.cInt 0)) (.idx (.var 7) (.cInt 0)))]) [.ret (.cBool false)] []]
theorem zip_ok {n : Nat} {σ : St} : ∀ (xs : List V) (ρ : Rho), Inc xs → (∀ v ∈ xs, IsRow v) → ∃ ρ', loop (fun v ρ σ => onO (asg2 6 7 v ρ) fun ρ' => execs P (run P (n + 2)) false true zB ρ' σ) (zipV xs (xs.drop 1)) ρ σ = some (.next, ρ', σ)
  | [], ρ, _, _ => ⟨ρ, rfl⟩
  | [x], ρ, _, _ => ⟨ρ, rfl⟩
  | x :: y :: r, ρ, hi, hr => by
    obtain ⟨i1, i2⟩ := List.pairwise_cons.mp hi
    have hlt := i1 y (List.mem_cons_self ..)
    obtain ⟨i, t, w, k, u, hx⟩ := hr x (List.mem_cons_self ..)
    obtain ⟨i', t', w', k', u', hy⟩ := hr y (List.mem_cons_of_mem _ (List.mem_cons_self ..))
    obtain ⟨ρ', e⟩ := zip_ok (n := n) (σ := σ) (y :: r) (upd (upd ρ 6 x) 7 y) i2 fun v hv => hr v (List.mem_cons_of_mem _ hv)
    have hn : i < i' := by rw [hx, hy] at hlt; exact hlt
    have e1 : execs P (run P (n + 2)) false true zB (upd (upd ρ 6 x) 7 y) σ = some (.next, upd (upd ρ 6 x) 7 y, σ) := by
      rw [hx, hy]
      exact Ex.iteF (M := Mh (n + 2)) (.boolC (.not (.fcall (.cons (.var rfl) .nil) (change_at (n := n) (i := i') (t := t') (w := w') (k := k') (x := u'))) rfl) rfl (.bool1 (.cmp (.idx (.var rfl) .cInt rfl) (.idx (.var rfl) .cInt rfl) (congrArg some (decide_eq_false (by lia)))))) rfl .nil
    exact ⟨ρ', (loop_next (f := fun v ρ σ => onO (asg2 6 7 v ρ) fun ρ' => execs P (run P (n + 2)) false true zB ρ' σ) (x := .tup [x, y]) e1).trans e⟩
section
variable {σ S : St} {a : Fin 12 → Nat} {r r' : Rm} {q q' : Qm} {Ls : List Ln} {m e n : Nat}
theorem turned_at {j k : Nat} {L : Ln} {luck : Int} (W : Wd σ a r q Ls m e) (hj : Ls[j]? = some L) : ∃ S, run P (n + 5) false "" "_law_turned" [.ref L.l, .int k, .int luck] [] σ = some (.ok (.bool true), S) ∧ Wd S a r q (Ls.set j (L.turn r k luck)) m e := by
  have K := W.line j L hj
  have f1 : Fr [] σ ((σ.new (.list false L.R)).new (.list false L.R)) := Fr.new (Fr.new Fr.refl)
  have e3 : Ev (Mh (n + 4)) (rhoOf [.ref L.l, .int k, .int luck]) σ (.bcall .list [(.mcall (.attr (.var 0) "ear") "heard" [] [] [])]) (.ref (σ.n + 1)) ((σ.new (.list false L.R)).new (.list false L.R)) := .bcall (.cons (.mcall (.attr (.var rfl) (attr_at K.at_.line rfl)) (meth_at K.at_.ear.e rfl) .nil .nil (heard_run (n := n + 3) K.at_.ear)) .nil) rfl (by
    show onO (listAt _ σ.n) _ = _
    rw [listAt_of get_new_eq]; rfl)
  have g1 : ((σ.new (.list false L.R)).new (.list false L.R)).get (σ.n + 1) = some (.list false L.R) := get_new_eq
  have n1 : ((σ.new (.list false L.R)).new (.list false L.R)).n = σ.n + 2 := rfl
  generalize (σ.new (.list false L.R)).new (.list false L.R) = T at f1 e3 g1 n1
  have W1 := W.fr f1
  have K1 := W1.line j L hj
  obtain ⟨S, e4, W2, f2⟩ := W1.turn (n := n) (k := k) (luck := luck) hj
  have hj2 : (Ls.set j (L.turn r k luck))[j]? = some (L.turn r k luck) := by rw [List.getElem?_set, if_pos rfl, if_pos (List.getElem?_eq_some_iff.mp hj).1]
  have K2 := W2.line j _ hj2
  obtain ⟨B, hB, hBk⟩ := turn_more (r := r) (L := L) (k := k) (luck := luck)
  have hE : EarAt S L.e L.rw L.sd (L.turn r k luck).taken (L.turn r k luck).R (L.turn r k luck).D := K2.at_.ear
  have hl : S.get L.l = some (lineO (a 0) ((j : Int) + 1) L.e) := K2.at_.line
  have g2 : S.get (σ.n + 1) = some (.list false L.R) := (f2.at_ _ (by lia) fun hm => by
    have := K.out (σ.n + 1) (List.mem_cons_of_mem _ hm)
    lia).trans g1
  have n2 := f2.n
  have hsub := K2.ear.sub
  have hrow : ∀ v ∈ (L.turn r k luck).R, IsRow v := fun v hv => W.ok.row v (hsub.subset hv)
  have hinc : Inc (L.turn r k luck).R := W.ok.good.hist.inc.sub hsub
  have W3 := W2.fr (S := S.new (.list false (L.turn r k luck).R)) (Fr.new Fr.refl)
  have hrow1 : ∀ v ∈ L.R, IsRow v := fun v hv => W.ok.row v (K.ear.sub.subset hv)
  generalize (L.turn r k luck).R = R' at hB e4 hE hrow hinc W3
  have g3 : (S.new (.list false R')).get S.n = some (.list false R') := get_new_eq
  have g4 : (S.new (.list false R')).get (σ.n + 1) = some (.list false L.R) := (get_new_lt (by lia)).trans g2
  have e5 := heard_run (n := n + 3) hE
  have hlen : R'.length = L.R.length + B.length := by rw [hB, List.length_append]
  have htake : R'.take L.R.length = L.R := by rw [hB, List.take_append_of_le_length (Nat.le_refl _), List.take_of_length_le (Nat.le_refl _)]
  have hlock : (lockV (S.new (.list false R')) (.ref S.n)) = lockV (S.new (.list false R')) (.ref S.n) := rfl
  obtain ⟨ρ', ez⟩ := zip_ok (n := n + 2) (σ := lockV (S.new (.list false R')) (.ref S.n)) R' (upd (upd (upd (rhoOf [.ref L.l, .int k, .int luck]) 3 (.ref (σ.n + 1))) 4 (.int ((R'.length : Int) - L.R.length))) 5 (.ref S.n)) hinc hrow
  have hre := relock g3
  generalize S.new (.list false R') = T3 at e5 g3 g4 W3 ez hre
  refine ⟨T3, call_at (fn := f__law_turned) (ρ := ρ') rfl rfl rfl (.assign e3 (.assign (.mcall (.var rfl) (meth_at K1.at_.line rfl) (.cons (.var rfl) (.cons (.var rfl) .nil)) .nil e4) (.assign (.mcall (.attr (.var rfl) (attr_at hl rfl)) (meth_at hE.e rfl) .nil .nil e5)
    (.iteF (.boolC (.not (.fcall (.cons (.var rfl) .nil) (whole_int (n := n + 3) (hd := false) (i := (R'.length : Int) - L.R.length))) rfl) rfl (.boolC (.not (Ev.chainT .cInt (.var rfl) (congrArg some (decide_eq_true (by lia))) (.var rfl) (congrArg some (decide_eq_true (by lia)))) rfl) rfl (.bool1 (.not (.isinst (.var rfl) (inst_list _ (listAt_of g3))) rfl)))) rfl
    (.iteF (.boolC (.cmp (.bcall (.cons (.var rfl) .nil) rfl (len_ref g3)) (.add (.bcall (.cons (.var rfl) .nil) rfl (len_ref g4)) (.var rfl)) (ne_int.trans (congrArg (fun b => some (!b)) (beq_iff_eq.mpr (by lia))))) rfl (.bool1 (.cmp (.slice (.var rfl) .cNone (.bcall (.cons (.var rfl) .nil) rfl (len_ref g4)) (slice_toL g3)) (.var rfl) (cmp_ne (b := true) (eq_seq (congrArg some htake) (listAt_of g4) fun v hv => row_data (hrow1 v hv)))))) rfl
    (Ex.forZ rfl (.cons (.var rfl) (.cons (.slice (.var rfl) .cInt .cNone (slice_1 g3)) .nil)) (listAt_of g3) ez (by rw [hre]; exact .ret .cBool))))))), W3⟩
end
end Lw.L09
namespace Lw.L09
open PySem
section
variable {σ : St} {a : Fin 12 → Nat} {r r' : Rm} {q q' : Qm} {Ls : List Ln} {m e n : Nat}
theorem eq_true {i j : Int} (h : i = j) : cmpV σ .eq (.int i) (.int j) = some true := by
  show some (i == j) = some true
  rw [h, beq_self_eq_true]
noncomputable def StepTo (n : Nat) (σ : St) (a : Fin 12 → Nat) (ρ : Rho) (m e : Nat) : Prop :=
  ∃ ρ' S a' r' q' Ls', Ex (Mh (n + 9)) f__law_step.body ρ σ (some (.ret (.bool true), ρ', S)) ∧ Wd S a' r' q' Ls' m e ∧ q'.lk = false ∧ ∀ i, i ≠ 5 → a' i = a i
theorem line_ev {ρ : Rho} {M : Mc} {c : Int} {x : E} (W : Wd σ a r q Ls m e) (p2 : ρ 2 = some (.ref (a 11))) (hx : Ev M ρ σ x (.int c) σ) : ∃ (j : Nat) (L : Ln), Ls[j]? = some L ∧ Ev M ρ σ (.idx (.idx (.var 2) (.bin .mod x (.bcall .len [(.var 2)]))) (.cInt 0)) (.ref L.l) σ := by
  have hpos := W.pos
  have n5 := W.n5
  have hlen : q.ls.length = Ls.length := by rw [W.ls, List.length_map]
  have elen : Ev M ρ σ (.bcall .len [(.var 2)]) (.int Ls.length) σ := by
    have := Ev.bcall (M := M) (ρ := ρ) (σ := σ) (.cons (.var p2) .nil) rfl (len_ref (W.lot.at_ 11))
    rw [hlen] at this; exact this
  have hmod0 := Int.emod_nonneg c (show (Ls.length : Int) ≠ 0 by lia)
  have hmod1 := Int.emod_lt_of_pos c (show (0 : Int) < Ls.length by lia)
  obtain ⟨j, hj⟩ : ∃ j : Nat, c % (Ls.length : Int) = j := ⟨(c % (Ls.length : Int)).toNat, by lia⟩
  have hjl : j < Ls.length := by lia
  have hLj : Ls[j]? = some Ls[j] := List.getElem?_eq_getElem hjl
  refine ⟨j, Ls[j], hLj, .idx (.idx (.var p2) (.mod hx elen ⟨by lia, by lia⟩) (v := lnV Ls[j]) ?_) .cInt rfl⟩
  rw [hj]
  show (σ.get (a 11)).bind (idxO (.int j)) = _
  rw [W.lot.at_ 11]
  show (place j q.ls.length).bind (q.ls[·]?) = _
  rw [place_at (by lia) (by rw [hlen]; lia) (by lia)]
  show q.ls[j]? = _
  rw [W.ls, List.getElem?_map, hLj]; rfl
structure SVars (a : Fin 12 → Nat) (ss : List Str) (c0 c1 c2 : Int) (ρ : Rho) : Prop where
  p0 : ρ 0 = some (.ref (a 0))
  p1 : ρ 1 = some (.ref (a 9))
  p2 : ρ 2 = some (.ref (a 11))
  p3 : ρ 3 = some (.lst (ss.map .str))
  p4 : ρ 4 = some (.lst [.int c0, .int c1, .int c2])
theorem begin_at {ss : List Str} {c0 c1 c2 : Int} {ρ : Rho} {rest : List S} (V : SVars a ss c0 c1 c2 ρ) (W : Wd σ a r q Ls m e) (hlk : q.lk = false) (h6 : ss.length = 6) (hl6 : ∀ (j : Nat) (x : Str), ss[j]? = some x → j ≠ 2 → x.length ≤ 20) (h5 : Ls.length < 5) :
    ∃ ρ' S r' q' Ls', Ex (Mh (n + 9)) ([.assign 5 (.fcall "_law_prefix" [(.var 3), (.idx (.var 4) (.cInt 2))]), .assign 6 (.bin .add (.mcall (.var 0) "first" [] [] []) (.bin .mod (.idx (.var 4) (.cInt 1)) (.bin .sub (.bin .add (.mcall (.var 0) "last" [] [] []) (.cInt 2)) (.mcall (.var 0) "first" [] [] [])))), .expr (.bmeth .append (.var 2) [(.tup [(.new "Line" [(.var 0), (.var 5), (.var 6)] [] []), (.var 5), (.var 6)])]), .assign 7 (.attr (.idx (.idx (.var 2) (.neg (.cInt 1))) (.cInt 0)) "watcher"), .ret (.bool true [(.fcall "_law_whole" [(.var 7)]), (.cmp .eq (.var 7) (.bcall .len [(.var 2)]))])] ++ rest) ρ σ (some (.ret (.bool true), ρ', S)) ∧ Wd S a r' q' Ls' m e ∧ q'.lk = false := by
  have A := W.lot
  have hrb := W.rb
  have hlen : q.ls.length = Ls.length := by rw [W.ls, List.length_map]
  obtain ⟨p, hp, ep⟩ := prefix_at (σ := σ) (n := n + 8) h6 hl6 c2
  have hla : (r.last : Int) = (r.old.length : Int) + (r.R.length : Int) := Int.natCast_add ..
  have hd : 0 < (r.last : Int) + 2 - ((r.old.length : Int) + 1) ∧ (r.last : Int) + 2 - ((r.old.length : Int) + 1) < 2 ^ 60 := by
    have := last_H (r := r)
    lia
  have hs0 := Int.emod_nonneg c1 (Int.ne_of_gt hd.1)
  have hs1 := Int.emod_lt_of_pos c1 hd.1
  have es : ∀ {ρ : Rho}, ρ 0 = some (.ref (a 0)) → ρ 4 = some (.lst [.int c0, .int c1, .int c2]) → Ev (Mh (n + 9)) ρ σ (.bin .add (.mcall (.var 0) "first" [] [] []) (.bin .mod (.idx (.var 4) (.cInt 1)) (.bin .sub (.bin .add (.mcall (.var 0) "last" [] [] []) (.cInt 2)) (.mcall (.var 0) "first" [] [] [])))) (.int ((r.old.length : Int) + 1 + c1 % ((r.last : Int) + 2 - ((r.old.length : Int) + 1)))) σ := fun h0 h4 =>
    .add (.mcall (.var h0) (meth_at (A.at_ 0) rfl) .nil .nil (first_run (n := n + 7) A)) (.mod (.idx (.var h4) .cInt rfl) (.sub (.add (.mcall (.var h0) (meth_at (A.at_ 0) rfl) .nil .nil (rlast_run (n := n + 7) A)) .cInt) (.mcall (.var h0) (meth_at (A.at_ 0) rfl) .nil .nil (first_run (n := n + 7) A))) hd)
  generalize hs : (r.old.length : Int) + 1 + c1 % ((r.last : Int) + 2 - ((r.old.length : Int) + 1)) = s at es
  obtain ⟨S, e1, W1, g11⟩ := W.begin_ (n := n + 5) (p := p) (s := s) h5 (by lia) (by lia)
  rw [hlk] at g11 W1
  have eapp : bmV .append (.ref (a 11)) [lnV (newLn σ p s)] S = some (.ok .none, S.set (a 11) (.list false (q.ls ++ [lnV (newLn σ p s)]))) := append_at g11 (by rw [hlen]; unfold lim; lia)
  generalize S.set (a 11) (.list false (q.ls ++ [lnV (newLn σ p s)])) = T at W1 eapp
  have K := W1.line Ls.length (newLn σ p s) (by rw [List.getElem?_append_right (Nat.le_refl _), Nat.sub_self]; rfl)
  have hl : T.get σ.n = some (lineO (a 0) ((Ls.length : Int) + 1) (σ.n + 2)) := K.at_.line
  have gT : T.get (a 11) = some (.list false (q.ls ++ [lnV (newLn σ p s)])) := W1.lot.at_ 11
  have e7 : ∀ {ρ : Rho}, ρ 2 = some (.ref (a 11)) → Ev (Mh (n + 9)) ρ T (.attr (.idx (.idx (.var 2) (.neg (.cInt 1))) (.cInt 0)) "watcher") (.int ((Ls.length : Int) + 1)) T := fun h => .attr (.idx (.idx (.var h) (.neg .cInt) (last_idx gT List.getLast?_concat (by rw [List.length_append, hlen]; unfold lim; show Ls.length + 1 < _; lia))) .cInt rfl) (attr_at hl rfl)
  refine ⟨upd (upd (upd ρ 5 (.str p)) 6 (.int s)) 7 (.int ((Ls.length : Int) + 1)), T, _, _, _, .assign (.fcall (.cons (.var V.p3) (.cons (.idx (.var V.p4) .cInt rfl) .nil)) ep) (.assign (es V.p0 V.p4) (.expr (.bmeth (.var V.p2) (pre_list (A.at_ 11) rfl) (.cons (.tup (.cons (.new (.cons (.var V.p0) (.cons (.var rfl) (.cons (.var rfl) .nil))) .nil e1) (.cons (.var rfl) (.cons (.var rfl) .nil))) lim3) .nil) rfl eapp) (.assign (e7 V.p2) (.ret (.boolC (.fcall (.cons (.var rfl) .nil) (whole_int (n := n + 8) (hd := false) (i := (Ls.length : Int) + 1))) rfl (.bool1 (.cmp (.var rfl) (.bcall (.cons (.var (v := .ref (a 11)) V.p2) .nil) rfl (len_ref gT)) (eq_true ?_)))))))), W1, rfl⟩
  rw [List.length_append, hlen]; rfl
theorem step_at {ss : List Str} {c0 c1 c2 : Int} {ρ : Rho} (V : SVars a ss c0 c1 c2 ρ) (W : Wd σ a r q Ls (m + 1) (e + 1)) (hlk : q.lk = false) (h6 : ss.length = 6) (hl6 : ∀ (j : Nat) (x : Str), ss[j]? = some x → j ≠ 2 → x.length ≤ 20) : StepTo n σ a ρ m e := by
  have A := W.lot
  have x0 : ∀ {S : St}, Ev (Mh (n + 9)) ρ S (.idx (.var 4) (.cInt 0)) (.int c0) S := .idx (.var V.p4) .cInt rfl
  have x1 : ∀ {S : St}, Ev (Mh (n + 9)) ρ S (.idx (.var 4) (.cInt 1)) (.int c1) S := .idx (.var V.p4) .cInt rfl
  have x2 : ∀ {ρ : Rho}, ρ 4 = some (.lst [.int c0, .int c1, .int c2]) → Ev (Mh (n + 9)) ρ σ (.idx (.var 4) (.cInt 2)) (.int c2) σ := fun h => .idx (.var h) .cInt rfl
  have c3 : ∀ {j : Int} {t : Bool}, (c0 % 3 == j) = t → Ev (Mh (n + 9)) ρ σ (.cmp .eq (.bin .mod (.idx (.var 4) (.cInt 0)) (.cInt 3)) (.cInt j)) (.bool t) σ := fun ht => .cmp (.mod x0 .cInt (by decide)) .cInt (congrArg some ht)
  by_cases h0 : c0 % 3 = 0
  · obtain ⟨d, ed⟩ := deed_at (n := n + 6) (kind := c0 / 3) (cell := c1) (more := c2) A (by have := W.g; have := W.law.g; lia) h6
    obtain ⟨S, r', q', e1, A1, f1, o1, w1, z1, hF, hls, hk1⟩ := did_any (n := n) (d := d) A W.ok W.lm W.law (by have := W.f; unfold lim; lia)
    have hgi : gI d ≤ 1 := by cases d <;> first | exact Nat.le_refl _ | exact Nat.zero_le _
    have hpi : pI d ≤ 1 := by cases d <;> first | exact Nat.le_refl _ | exact Nat.zero_le _
    have W1 := (W.less (Nat.le_refl _) (Nat.add_le_add_left hgi e)).deed A1 f1 o1 w1 z1 hpi hF hls
    exact ⟨ρ, S, a, r', q', Ls, .iteT (c3 (beq_iff_eq.mpr h0)) rfl (.expr (.fcall (.cons (.var V.p0) (.cons (.var V.p1) (.cons (.fcall (.cons (.var V.p1) (.cons (.var V.p3) (.cons (.fdiv x0 .cInt (by decide)) (.cons x1 (.cons (x2 V.p4) .nil))))) ed) .nil))) e1) (.ret .cBool)), W1, hk1.trans hlk, fun _ _ => rfl⟩
  have W0 := W.less (Nat.le_succ m) (Nat.le_succ e)
  have hlen : q.ls.length = Ls.length := by rw [W.ls, List.length_map]
  have elen : Ev (Mh (n + 9)) ρ σ (.bcall .len [(.var 2)]) (.int Ls.length) σ := by
    have := Ev.bcall (M := Mh (n + 9)) (ρ := ρ) (σ := σ) (.cons (.var V.p2) .nil) rfl (len_ref (A.at_ 11))
    rw [hlen] at this; exact this
  have cond : Ev (Mh (n + 9)) ρ σ (.bool true [(.cmp .eq (.bin .mod (.idx (.var 4) (.cInt 0)) (.cInt 3)) (.cInt 1)), (.cmp .lt (.bcall .len [(.var 2)]) (.cInt 5)), (.cmp .eq (.bin .mod (.bin .fdiv (.idx (.var 4) (.cInt 0)) (.cInt 3)) (.cInt 3)) (.cInt 0))]) (.bool ((c0 % 3 == 1) && (decide ((Ls.length : Int) < 5) && (c0 / 3 % 3 == 0)))) σ := .and3 (c3 rfl) (.cmp elen .cInt rfl) (.cmp (.mod (.fdiv x0 .cInt (by decide)) .cInt (by decide)) .cInt rfl)
  cases hcond : ((c0 % 3 == 1) && (decide ((Ls.length : Int) < 5) && (c0 / 3 % 3 == 0))) with
  | true =>
    rw [hcond] at cond
    have h5 : Ls.length < 5 := by
      have := of_decide_eq_true (Bool.and_eq_true_iff.mp (Bool.and_eq_true_iff.mp hcond).2).1
      lia
    obtain ⟨ρ', S, r', q', Ls', eb, W1, hk⟩ := begin_at (n := n) (rest := f__law_step.body.drop 2) V W0 hlk h6 hl6 h5
    exact ⟨ρ', S, a, r', q', Ls', .iteF (c3 (beq_eq_false_iff_ne.mpr h0)) rfl (.iteT cond rfl eb), W1, hk, fun _ _ => rfl⟩
  | false =>
    rw [hcond] at cond
    have c7 : ∀ {t : Bool}, (c0 / 3 % 7 == 6) = t → Ev (Mh (n + 9)) ρ σ (.cmp .eq (.bin .mod (.bin .fdiv (.idx (.var 4) (.cInt 0)) (.cInt 3)) (.cInt 7)) (.cInt 6)) (.bool t) σ := fun ht => .cmp (.mod (.fdiv x0 .cInt (by decide)) .cInt (by decide)) .cInt (congrArg some ht)
    by_cases h7 : c0 / 3 % 7 = 6
    · obtain ⟨S, a', i, r', e1, W1, ha⟩ := W0.trim (n := n + 6)
      exact ⟨ρ, S, a', r', q, Ls, .iteF (c3 (beq_eq_false_iff_ne.mpr h0)) rfl (.iteF cond rfl (.iteT (c7 (beq_iff_eq.mpr h7)) rfl (.ret (.fcall (.cons (.mcall (.var V.p0) (meth_at (A.at_ 0) rfl) .nil .nil e1) .nil) (whole_int (n := n + 8) (hd := false) (i := i)))))), W1, hlk, ha⟩
    · obtain ⟨k, hk, ek⟩ := two_ints (σ := σ) (x := c2 / 4 % 5) (y := c2 / 4 % 97) (i := c0 / 63 % 2) (by lia) (by lia)
      obtain ⟨k', rfl⟩ : ∃ k' : Nat, k = k' := ⟨k.toNat, by lia⟩
      have e8 : Ev (Mh (n + 9)) ρ σ (.idx (.list false [(.bin .mod (.bin .fdiv (.idx (.var 4) (.cInt 2)) (.cInt 4)) (.cInt 5)), (.bin .mod (.bin .fdiv (.idx (.var 4) (.cInt 2)) (.cInt 4)) (.cInt 97))]) (.bin .mod (.bin .fdiv (.idx (.var 4) (.cInt 0)) (.cInt 63)) (.cInt 2))) (.int k') σ := .idx (.list (.cons (.mod (.fdiv (x2 V.p4) .cInt (by decide)) .cInt (by decide)) (.cons (.mod (.fdiv (x2 V.p4) .cInt (by decide)) .cInt (by decide)) .nil)) lim2) (.mod (.fdiv x0 .cInt (by decide)) .cInt (by decide)) ek
      obtain ⟨j, L, hj, el⟩ := line_ev (M := Mh (n + 9)) (ρ := upd ρ 8 (.int k')) (x := .idx (.var 4) (.cInt 1)) W0 V.p2 (.idx (.var V.p4) .cInt rfl)
      obtain ⟨S, et, W1⟩ := turned_at (n := n + 4) (k := k') (luck := c2 % 4) W0 hj
      exact ⟨_, S, a, r, q, _, .iteF (c3 (beq_eq_false_iff_ne.mpr h0)) rfl (.iteF cond rfl (.iteF (c7 (beq_eq_false_iff_ne.mpr h7)) rfl (.assign e8 (.ret (.fcall (.cons el (.cons (.var rfl) (.cons (.mod (x2 V.p4) .cInt (by decide)) .nil))) et))))), W1, hlk, fun _ _ => rfl⟩
end
end Lw.L09
namespace Lw.L09
open PySem
theorem eq_row {σ : St} {i t : Int} {w k x : Str} : eqV σ (row i t w k x) (row i t w k x) = some true := by
  show some (PyData.eqv (.tuple [.int i, .int t, .str w, .str k, .str x]) (.tuple [.int i, .int t, .str w, .str k, .str x])) = some true
  exact congrArg some (eqv_data (σ := σ) 6 (row i t w k x) _ rfl)
theorem ne_str {σ : St} {s w : Str} {b : Bool} (h : (s == w) = b) : cmpV σ .ne (.str s) (.str w) = some (!b) := cmp_ne (eq_words h)
structure StOk (D : List (Str × V)) (H : List V) (i : Nat) : Prop where
  len : D.length ≤ i
  at_ : ∀ k, (valH H k).isSome = true → (lk D k).isSome = true
noncomputable def allB : List S := [.ite (.bool false [(.not (.fcall "_law_change" [(.var 5)])), (.cmp .ne (.idx (.var 5) (.cInt 0)) (.bin .add (.var 2) (.cInt 1))), (.not (.chain (.var 3) (.idx (.var 5) (.cInt 1)) (.idx (.var 1) (.cStr "now"))))]) [.ret (.cBool false)] [], .assign 2 (.idx (.var 5) (.cInt 0)), .assign 3 (.idx (.var 5) (.cInt 1)), .ite (.cmp .isin (.var 2) (.idx (.var 1) (.cStr "mine"))) [.ite (.cmp .ne (.var 5) (.idx (.idx (.var 1) (.cStr "mine")) (.var 2))) [.ret (.cBool false)] []] [.ite (.bool false [(.cmp .ne (.idx (.var 5) (.cInt 2)) (.cStr "cut")), (.cmp .ne (.idx (.var 5) (.cInt 4)) (.cStr ""))]) [.ret (.cBool false)] []], .ite (.bool true [(.cmp .eq (.idx (.var 5) (.cInt 2)) (.cStr "cut")), (.cmp .notin (.idx (.var 5) (.cInt 3)) (.var 4))]) [.ret (.cBool false)] [], .setidx (.var 4) (.idx (.var 5) (.cInt 3)) (.cBool true), .ite (.cmp .eq (.idx (.var 5) (.cInt 2)) (.cStr "cut")) [.expr (.bmeth .pop (.var 4) [(.idx (.var 5) (.cInt 3))])] []]
structure AVars (p q : Nat) (i : Nat) (u : Int) (ρ : Rho) : Prop where
  p1 : ρ 1 = some (.ref p)
  p2 : ρ 2 = some (.int i)
  p3 : ρ 3 = some (.int u)
  p4 : ρ 4 = some (.ref q)
theorem all_step {n : Nat} {σ : St} {ρ : Rho} {m f d i : Nat} {g now u : Int} {mine : List (Int × V)} {H : List V} {D : List (Str × V)} {v : V} (V : AVars m d i u ρ) (h9 : σ.get m = some (mineO g now f)) (h10 : σ.get f = some (.di false mine)) (hd : σ.get d = some (.ds false D)) (hD : StOk D H i) (hi : i < 1000) (R : RowOk mine now H i v) (hu : u ≤ tickR v) :
    ∃ ρ' D', execs P (run P (n + 2)) false true allB (upd ρ 5 v) σ = some (.next, ρ', σ.set d (.ds false D')) ∧ AVars m d (i + 1) (tickR v) ρ' ∧ StOk D' (H ++ [v]) (i + 1) := by
  obtain ⟨t, w, k, x, rfl, ⟨t0, t1⟩, hc, hm⟩ := R.ex
  have hu : u ≤ t := hu
  have hlim : D.length < lim := by have := hD.len; unfold lim; lia
  generalize hρ : upd ρ 5 (row ((i : Int) + 1) t w k x) = ρ0
  have a1 : ρ0 1 = some (.ref m) := by rw [← hρ]; exact V.p1
  have a2 : ρ0 2 = some (.int i) := by rw [← hρ]; exact V.p2
  have a3 : ρ0 3 = some (.int u) := by rw [← hρ]; exact V.p3
  have a4 : ρ0 4 = some (.ref d) := by rw [← hρ]; exact V.p4
  have a5 : ρ0 5 = some (row ((i : Int) + 1) t w k x) := by rw [← hρ]; rfl
  have r1 : Ev (Mh (n + 2)) ρ0 σ (.idx (.var 5) (.cInt 1)) (.int t) σ := .idx (.var a5) .cInt rfl
  have r2 : Ev (Mh (n + 2)) ρ0 σ (.idx (.var 1) (.cStr "now")) (.int now) σ := .idx (.var a1) .cStr (item_ds h9 rfl)
  have c1 : Ev (Mh (n + 2)) ρ0 σ (.bool false [(.not (.fcall "_law_change" [(.var 5)])), (.cmp .ne (.idx (.var 5) (.cInt 0)) (.bin .add (.var 2) (.cInt 1))), (.not (.chain (.var 3) (.idx (.var 5) (.cInt 1)) (.idx (.var 1) (.cStr "now"))))]) (.bool false) σ := .boolC (.not (.fcall (.cons (.var a5) .nil) (change_at (n := n) (i := (i : Int) + 1) (t := t) (w := w) (k := k) (x := x))) rfl) rfl (.boolC (.cmp (.idx (.var a5) .cInt rfl) (.add (.var a2) .cInt) ne_self) rfl (.bool1 (.not (Ev.chainT (.var a3) r1 (congrArg some (decide_eq_true hu)) r2 (congrArg some (decide_eq_true t1))) rfl)))
  generalize hρ1 : upd (upd ρ0 2 (.int ((i : Int) + 1))) 3 (.int t) = ρ1
  have b1 : ρ1 1 = some (.ref m) := by rw [← hρ1]; exact a1
  have b2 : ρ1 2 = some (.int ((i : Int) + 1)) := by rw [← hρ1]; rfl
  have b3 : ρ1 3 = some (.int t) := by rw [← hρ1]; rfl
  have b4 : ρ1 4 = some (.ref d) := by rw [← hρ1]; exact a4
  have b5 : ρ1 5 = some (row ((i : Int) + 1) t w k x) := by rw [← hρ1]; exact a5
  have em : Ev (Mh (n + 2)) ρ1 σ (.idx (.var 1) (.cStr "mine")) (.ref f) σ := .idx (.var b1) .cStr (item_ds h9 rfl)
  have cm : ∀ {R : RS}, Ex (Mh (n + 2)) (allB.drop 4) ρ1 σ R → Ex (Mh (n + 2)) (allB.drop 3) ρ1 σ R := fun h => by
    have ci : Ev (Mh (n + 2)) ρ1 σ (.cmp .isin (.var 2) (.idx (.var 1) (.cStr "mine"))) (.bool (lk mine ((i : Int) + 1)).isSome) σ := .cmp (.var b2) em (in_di h10)
    rcases hm with hm | ⟨hm, rfl, rfl⟩
    · rw [hm] at ci
      exact .iteT ci rfl (.iteF (.cmp (.var b5) (.idx em (.var b2) (item_di h10 hm)) (cmp_ne eq_row)) rfl h)
    · rw [hm] at ci
      exact .iteF ci rfl (.iteF (.boolC (.cmp (.idx (.var b5) .cInt rfl) .cStr (ne_str (beq_self_eq_true _))) rfl (.bool1 (.cmp (.idx (.var b5) .cInt rfl) .cStr (ne_str (beq_self_eq_true _))))) rfl h)
  have cw : ∀ {S : St} {b : Bool}, (w == cutS) = b → Ev (Mh (n + 2)) ρ1 S (.cmp .eq (.idx (.var 5) (.cInt 2)) (.cStr "cut")) (.bool b) S := fun hb => .cmp (.idx (.var b5) .cInt rfl) .cStr (eq_words hb)
  have ck : Ev (Mh (n + 2)) ρ1 σ (.bool true [(.cmp .eq (.idx (.var 5) (.cInt 2)) (.cStr "cut")), (.cmp .notin (.idx (.var 5) (.cInt 3)) (.var 4))]) (.bool false) σ := by
    cases hw : w == cutS with
    | true =>
      have hs := hD.at_ k (hc (eq_of_beq hw))
      exact .boolC (cw hw) rfl (.bool1 (.cmp (.idx (.var b5) .cInt rfl) (.var b4) ((notin_ds hd).trans (by rw [hs]; rfl))))
    | false => exact .boolS (cw hw) rfl
  have fin : ∀ {R : RS}, Ex (Mh (n + 2)) (allB.drop 6) ρ1 (σ.set d (.ds false (Lw.st D k (.bool true)))) R → Ex (Mh (n + 2)) allB ρ0 σ R := fun h =>
    .iteF c1 rfl (.assign (.idx (.var a5) .cInt rfl) (.assign (x := .int t) (.idx (.var (v := row ((i : Int) + 1) t w k x) a5) .cInt rfl) (by rw [hρ1]; exact cm (.iteF ck rfl (.setidx .cBool (.var b4) (.idx (.var b5) .cInt rfl) (put_ds hd hlim) h)))))
  have V' : AVars m d (i + 1) t ρ1 := ⟨b1, b2, b3, b4⟩
  have hl := hD.len
  have hl2 := st_len (D := D) (k := k) (v := Lw.V.bool true)
  cases hw : w == cutS with
  | true =>
    have g2 : (σ.set d (.ds false (Lw.st D k (.bool true)))).get d = some (.ds false (Lw.st D k (.bool true))) := get_set_eq
    have hp := pop_ds (k := k) (v := .bool true) g2 (by rw [lk_st, if_pos rfl])
    rw [set_set] at hp
    refine ⟨ρ1, rm (Lw.st D k (.bool true)) k, fin (.iteT (cw hw) rfl (.expr (.bmeth (.var b4) (pre_ds g2 rfl) (.cons (.idx (.var b5) .cInt rfl) .nil) rfl hp) .nil)), V', ⟨?_, fun k' hk' => ?_⟩⟩
    · have := rm_len (D := Lw.st D k (.bool true)) (k := k); lia
    · rw [valH_snoc, eq_of_beq hw, cut_put] at hk'
      rw [lk_rm, lk_st]
      by_cases z : k = k'
      · rw [if_pos z] at hk'; cases hk'
      · rw [if_neg z] at hk'
        rw [if_neg fun q => z q.symm, if_neg fun q => z q.symm]; exact hD.at_ k' hk'
  | false =>
    refine ⟨ρ1, Lw.st D k (.bool true), fin (.iteF (cw hw) rfl .nil), V', ⟨by lia, fun k' hk' => ?_⟩⟩
    rw [valH_snoc] at hk'
    rw [lk_st]
    by_cases z : k = k'
    · rw [if_pos z.symm]; rfl
    · rw [if_neg z] at hk'
      rw [if_neg fun q => z q.symm]; exact hD.at_ k' hk'
theorem all_at {n : Nat} {σ : St} {a : Fin 12 → Nat} {r : Rm} {q : Qm} {H : List V} {t : Nat} (A : At σ a r q) (T : Tale H q.mine q.now) (ht : σ.get t = some (.list false H)) (hn : t < σ.n) (hta : ∀ i, t ≠ a i) (hH : H.length ≤ 500) :
    ∃ S, run P (n + 3) false "" "_law_all" [.ref t, .ref (a 9)] [] σ = some (.ok (.bool true), S) ∧ Fr [] σ S := by
  have f1 : Fr [] σ (σ.new (.ds false [])) := Fr.new Fr.refl
  have A1 := A.fr f1
  have g1 : (σ.new (.ds false [])).get σ.n = some (.ds false []) := get_new_eq
  have gt : (σ.new (.ds false [])).get t = some (.list false H) := (get_new_lt hn).trans ht
  have n1 : (σ.new (.ds false [])).n = σ.n + 1 := rfl
  have e4 : ∀ {ρ : Rho}, Ev (Mh (n + 2)) ρ σ (.dict0 true) (.ref σ.n) (σ.new (.ds false [])) := .dict0
  generalize σ.new (.ds false []) = T1 at f1 A1 g1 gt n1 e4
  have hdt : σ.n ≠ t := Nat.ne_of_gt hn
  have hda : ∀ i, σ.n ≠ a i := fun i => Nat.ne_of_gt (A.lt i)
  have lk1 : ∀ j, j ≠ t → (lockV T1 (.ref t)).get j = T1.get j := fun j hj => by rw [lock_ref gt, get_set_ne hj]
  obtain ⟨ρ', S, eL, h1⟩ := loop_inv (f := fun v ρ σ => execs P (run P (n + 2)) false true allB (upd ρ 5 v) σ)
    (fun i ρ S => ∃ u D, AVars (a 9) σ.n i u ρ ∧ (∀ v, H[i]? = some v → u ≤ tickR v) ∧ S.get σ.n = some (.ds false D) ∧ StOk D (H.take i) i ∧ S.n = σ.n + 1 ∧ ∀ j, j ≠ σ.n → S.get j = (lockV T1 (.ref t)).get j) H 0
    (upd (upd (upd (rhoOf [.ref t, .ref (a 9)]) 2 (.int 0)) 3 (.int 0)) 4 (.ref σ.n)) (lockV T1 (.ref t)) ⟨0, [], ⟨rfl, rfl, rfl, rfl⟩, fun v hv => (by
      obtain ⟨t, w, k, x, rfl, h, _⟩ := (T.row 0 v hv).ex
      exact h.1), (lk1 _ hdt).trans g1, ⟨Nat.le_refl _, fun k h => (by cases h)⟩, by rw [lock_ref gt]; exact n1, fun _ _ => rfl⟩ fun i v ρ S hv ⟨u, D, V, hu, hd, hD, hSn, hS⟩ => by
    rw [Nat.zero_add] at V hu hD ⊢
    have hil := (List.getElem?_eq_some_iff.mp hv).1
    have ga : ∀ j, S.get (a j) = some (objs r q a j) := fun j => (hS _ (hda j).symm).trans ((lk1 _ (hta j).symm).trans (A1.at_ j))
    obtain ⟨ρ', D', e, V', hD'⟩ := all_step (n := n) V (ga 9) (ga 10) hd hD (by lia) (T.row i v hv) (hu v hv)
    refine ⟨ρ', _, e, tickR v, D', V', fun w hw => T.up i v w hv hw, get_set_eq, ?_, hSn, fun j hj => (get_set_ne hj).trans (hS j hj)⟩
    rw [List.take_add_one, hv]; exact hD'
  obtain ⟨u, D, V, _, hd, _, hSn, hS⟩ := h1
  rw [Nat.zero_add] at V
  have eU : unlockV T1 (.ref t) S = S.set t (.list false H) := unlock_ref gt
  have f2 : Fr [] σ (S.set t (.list false H)) := by
    refine ⟨by show σ.n ≤ S.n; lia, fun j hj _ => ?_⟩
    by_cases z : j = t
    · rw [z]; exact get_set_eq.trans ht.symm
    · rw [get_set_ne z, hS j (Nat.ne_of_lt hj), lk1 j z]; exact f1.at_ j hj (fun q => nomatch q)
  have A2 := A.fr f2
  generalize S.set t (.list false H) = S2 at eU f2 A2
  obtain ⟨ρ2, S3, e2, p2, rfl⟩ := loop_inv (f := fun v ρ σ => execs P (run P (n + 2)) false true [.ite (.cmp .gt (.var 6) (.var 2)) [.ret (.cBool false)] []] (upd ρ 6 v) σ) (fun _ ρ σ' => ρ 2 = some (.int H.length) ∧ lockV S2 (.ref (a 10)) = σ') (q.mine.map fun kv => .int kv.1) 0 ρ' (lockV S2 (.ref (a 10))) ⟨V.p2, rfl⟩ fun i v ρ σ' hv ⟨h2, h4⟩ => by
    obtain ⟨kv, hk, rfl⟩ := List.mem_map.mp (List.mem_of_getElem? hv)
    have := (T.key kv hk).2
    exact ⟨_, σ', Ex.iteF (M := Mh (n + 2)) (.cmp (.var rfl) (.var h2) (congrArg some (decide_eq_false (by lia)))) rfl .nil, h2, h4⟩
  exact ⟨S2, call_at (fn := f__law_all) (ρ := ρ2) rfl rfl rfl (.assign .cInt (.assign .cInt (.assign e4 (.for1 rfl (.var rfl) (items_ref gt) eL (by rw [eU]; exact .forP rfl (.idx (.var V.p1) .cStr (item_ds (A2.at_ 9) rfl)) (items_di (A2.at_ 10)) e2 (relock_di (A2.at_ 10)) (.ret .cBool)))))), f2⟩
end Lw.L09
namespace Lw.L09
open PySem
theorem key_at {σ : St} (n : Nat) (c k : Int) : ∃ s : Str, run P (n + 3) false "" "_law_key" [.int c, .int k] [] σ = some (.ok (.str s), σ) := by
  have h2 : Ev (Mh (n + 2)) (rhoOf [.int c, .int k]) σ (.cmp .eq (.bin .mod (.var 0) (.cInt 2)) (.cInt 0)) (.bool (c % 2 == 0)) σ := .cmp (.mod (.var rfl) .cInt (by decide)) .cInt rfl
  obtain ⟨x, e1⟩ := sign_at (σ := σ) (n + 1) (c + k)
  cases hc : c % 2 == 0 with
  | true =>
    obtain ⟨s, hs, _, e2⟩ := text_at (σ := σ) n c (k % 17) (by lia) (by lia)
    exact ⟨_, call_at rfl rfl rfl (.iteT (hc ▸ h2) rfl (.ret (.addS (.fcall (.cons (.add (.var rfl) (.var rfl)) .nil) e1) (.fcall (.cons (.var rfl) (.cons (.mod (.var rfl) .cInt (by decide)) .nil)) e2) (le_lim one_le (Nat.le_trans hs (by decide))))))⟩
  | false =>
    obtain ⟨s, hs, _, e2⟩ := text_at (σ := σ) n c (c / 2 % 18) (by lia) (by lia)
    have hA : 0 < (s.length : Int) + 1 ∧ (s.length : Int) + 1 < 2 ^ 60 := by lia
    exact ⟨_, call_at rfl rfl rfl (.iteF (hc ▸ h2) rfl (.assign (.fcall (.cons (.var rfl) (.cons (.mod (.fdiv (.var rfl) .cInt (by decide)) .cInt (by decide)) .nil)) e2)
      (.assign (.mod (.fdiv (.var rfl) .cInt (by decide)) (.add (.bcall (.cons (.var rfl) .nil) rfl rfl) .cInt) hA)
      (.ret (.addS (.addS (.slice (.var rfl) .cNone (.var rfl) rfl) (.fcall (.cons (.add (.var rfl) (.var rfl)) .nil) e1) (le_lim (Nat.le_trans (cut_len ..) (Nat.le_trans hs (by decide))) one_le)) (.slice (.var rfl) (.var rfl) .cNone rfl) (le_lim (by rw [len_app]; exact Nat.le_trans (Nat.add_le_add (Nat.le_trans (cut_len ..) hs) (show (1 : Nat) ≤ 1000 by decide)) (by decide)) (Nat.le_trans (cut_len ..) (Nat.le_trans hs (by decide)))))))))⟩
theorem Wd.did {σ : St} {a : Fin 12 → Nat} {r : Rm} {q : Qm} {Ls : List Ln} {m e n : Nat} {d : Deed} (W : Wd σ a r q Ls (m + 1) (e + gI d)) (hp : pI d ≤ 1) : ∃ S r' q', run P (n + 9) false "" "_law_did" [.ref (a 0), .ref (a 9), dv d] [] σ = some (.ok .none, S) ∧ Wd S a r' q' Ls m e ∧ q'.lk = q.lk := by
  obtain ⟨S, r', q', e1, A1, f1, o1, w1, z1, hF, hls, hk1⟩ := did_any (n := n) (d := d) W.lot W.ok W.lm W.law (by have := W.f; unfold lim; lia)
  exact ⟨S, r', q', e1, W.deed A1 f1 o1 w1 z1 hp hF hls, hk1⟩
noncomputable def crB : List S := [.expr (.fcall "_law_did" [(.var 0), (.var 1), (.tup [.cStr "put", (.fcall "_law_key" [(.var 2), (.var 4)]), (.fcall "_law_text" [(.var 4), (.bin .mod (.var 4) (.cInt 3))]), (.idx (.list false [(.var 3), .cInt 0]) (.bin .fdiv (.bin .mod (.var 4) (.cInt 5)) (.cInt 4)))])])]
theorem crowd_at {σ : St} {a : Fin 12 → Nat} {r : Rm} {q : Qm} {Ls : List Ln} {n : Nat} {c : Int} (W : Wd σ a r q Ls 61 21) : ∃ S r' q', run P (n + 10) false "" "_law_crowd" [.ref (a 0), .ref (a 9), .int c] [] σ = some (.ok .none, S) ∧ Wd S a r' q' Ls 20 20 ∧ q'.lk = q.lk := by
  obtain ⟨S1, r1, q1, e1, h1, k1⟩ := Wd.did (n := n) (m := 60) (e := 20) (d := .grant (1 + c % 9)) W (Nat.zero_le _)
  have hlen : (rngList 0 40 1).length = 40 := rng_len
  obtain ⟨ρ', S2, e2, i0, i1, i2, i3, r2, q2, h2, k2⟩ := loop_fold (f := fun v ρ σ => execs P (run P (n + 9)) false true crB (upd ρ 4 v) σ) (fun (_ : Unit) _ => ()) (fun k _ ρ S => ρ 0 = some (.ref (a 0)) ∧ ρ 1 = some (.ref (a 9)) ∧ ρ 2 = some (.int c) ∧ ρ 3 = some (.int ((q.g : Int) + 1)) ∧ ∃ r' q', Wd S a r' q' Ls (20 + k) 20 ∧ q'.lk = q.lk) (rngList 0 40 1) () (upd (rhoOf [.ref (a 0), .ref (a 9), .int c]) 3 (.int ((q.g : Int) + 1))) S1 ⟨rfl, rfl, rfl, rfl, r1, q1, by rw [hlen]; exact h1, k1⟩ fun v hv k _ ρ S ⟨i0, i1, i2, i3, r2, q2, h2, k2⟩ => by
    obtain ⟨m, _, rfl⟩ := rng_mem hv
    generalize (m : Int) = j
    obtain ⟨key, ek⟩ := key_at (σ := S) (n + 6) c j
    obtain ⟨x, _, _, ex⟩ := text_at (σ := S) (n + 7) j (j % 3) (by lia) (by lia)
    obtain ⟨hand, _, eh⟩ := two_ints (σ := S) (x := (q.g : Int) + 1) (y := 0) (i := j % 5 / 4) (by lia) (by lia)
    obtain ⟨S3, r3, q3, e3, h3, k3⟩ := Wd.did (n := n) (m := 20 + k) (e := 20) (d := .put key x hand) h2 (Nat.le_refl _)
    exact ⟨_, S3, Ex.expr (M := Mh (n + 9)) (.fcall (.cons (.var i0) (.cons (.var i1) (.cons (.tup (.cons .cStr (.cons (.fcall (.cons (.var i2) (.cons (.var rfl) .nil)) ek) (.cons (.fcall (.cons (.var rfl) (.cons (.mod (.var rfl) .cInt (by decide)) .nil)) ex) (.cons (.idx (.list (.cons (.var i3) (.cons .cInt .nil)) lim2) (.fdiv (.mod (.var rfl) .cInt (by decide)) .cInt (by decide)) eh) .nil)))) lim4) .nil))) e3) .nil, i0, i1, i2, i3, r3, q3, h3, k3.trans k2⟩
  have ei : itemsOf S1 (.rng 0 40 1) = some (rngList 0 40 1) := rng_items (Int.natCast_nonneg 40) (by decide)
  have er : Ev (Mh (n + 9)) (upd (rhoOf [.ref (a 0), .ref (a 9), .int c]) 3 (.int ((q.g : Int) + 1))) S1 (.bcall .range [.cInt 40]) (.rng 0 40 1) S1 := .bcall (.cons .cInt .nil) rfl rfl
  exact ⟨S2, r2, q2, call_at0 rfl rfl rfl (.assign (.add (.idx (.var rfl) .cStr (item_ds (W.lot.at_ 9) rfl)) .cInt) (.expr (.fcall (.cons (.var rfl) (.cons (.var rfl) (.cons (.tup (.cons .cStr (.cons (.add .cInt (.mod (.var rfl) .cInt (by decide))) .nil)) lim2) .nil))) e1) (.for1 rfl er ei e2 .nil))), h2, k2⟩
noncomputable def E1 : E := .new "Room" [] [] []
noncomputable def E2 : E := .dict ["given", "now", "mine"] [.cInt 0, .cInt 0, (.dict0 false)]
noncomputable def E3 : E := .list true [(.tup [(.new "Line" [(.var 1), .cStr "", .cInt 1] [] []), .cStr "", .cInt 1])]
noncomputable def stOf : RV → St
  | some (_, s) => s
  | none => St.empty
noncomputable def stA : St := stOf (ev P (run P 3) false E1 (fun _ => none) St.empty)
noncomputable def stB' : St := stOf (ev P (run P 3) false E2 (fun _ => none) stA)
noncomputable def stC : St := stOf (ev P (run P 4) false E3 (upd (fun _ => none) 1 (.ref 0)) stB')
theorem room_ev {n : Nat} {ρ : Rho} : Ev (Mh (n + 3)) ρ St.empty E1 (.ref 0) stA := by
  show ev P (run P (n + 3)) false E1 ρ St.empty = some (.ok (.ref 0), stA)
  kernel_rfl
theorem mine_ev {n : Nat} {ρ : Rho} : Ev (Mh (n + 3)) ρ stA E2 (.ref 10) stB' := by
  show ev P (run P (n + 3)) false E2 ρ stA = some (.ok (.ref 10), stB')
  kernel_rfl
theorem lines_ev {n : Nat} {ρ : Rho} : Ev (Mh (n + 4)) (upd (upd ρ 1 (.ref 0)) 2 (.ref 10)) stB' E3 (.ref 16) stC := by
  show ev P (run P (n + 4)) false E3 (upd (upd ρ 1 (.ref 0)) 2 (.ref 10)) stB' = some (.ok (.ref 16), stC)
  kernel_rfl
noncomputable def adr (i : Fin 12) : Nat := List.get [0, 1, 2, 3, 4, 5, 6, 7, 8, 10, 9, 16] i
noncomputable def room0 : Rm := ⟨0, 0, [], [], [], [], [], 1, [(1, .ref 12)]⟩
noncomputable def line0 : Ln := ⟨11, 12, 13, 14, 15, Str.ofString "", 0, 0, [], [], 1⟩
noncomputable def law0 : Qm := ⟨0, 0, [], [lnV line0], false⟩
theorem at0 : At stC adr room0 law0 := ⟨forall12 (by kernel_rfl) (by kernel_rfl) (by kernel_rfl) (by kernel_rfl) (by kernel_rfl) (by kernel_rfl) (by kernel_rfl) (by kernel_rfl) (by kernel_rfl) (by kernel_rfl) (by kernel_rfl) (by kernel_rfl), by decide, by decide +kernel⟩
theorem out0 : ∀ x ∈ line0.adr, x < 17 ∧ ∀ i, x ≠ adr i := by decide
theorem lat0 : LnAt stC adr (((0 : Nat) : Int) + 1) line0 := ⟨by kernel_rfl, by kernel_rfl, ⟨by kernel_rfl, by kernel_rfl, by kernel_rfl⟩⟩
theorem world0 : Wd stC adr room0 law0 [line0] 61 21 := by
  have hn : stC.n = 17 := by kernel_rfl
  refine ⟨at0, ⟨List.nodup_nil, List.nodup_nil, (fun k v h => (by cases h)), Nat.le_refl _, Nat.le_refl _, ⟨Hist.nil, fun _ => rfl⟩, Nat.le_refl _, Int.le_refl _⟩, ⟨rfl, rfl, Tale.nil, Nat.le_refl _⟩, rfl, by kernel_rfl, rfl, fun j L hj => ?_, fun i j L M hi hj hne => ?_, by decide, Nat.le_refl _, by decide, by decide, ⟨line0, rfl, rfl, rfl⟩⟩
  · match j, hj with
    | 0, hj => cases hj; exact ⟨lat0, fun x hx => ⟨by rw [hn]; exact (out0 x hx).1, (out0 x hx).2⟩, new_ear (s := 1) Hist.nil (by decide) (by decide), Int.le_refl _, Int.le_refl _⟩
    | _ + 1, hj => cases hj
  · match i, j, hi, hj, hne with
    | 0, 0, _, _, h => exact absurd rfl h
    | _ + 1, _, hi, _, _ => cases hi
    | 0, _ + 1, _, hj, _ => cases hj
theorem cut3 {σ : St} {ns : List Int} {k : Nat} (h : k + 3 ≤ ns.length) : ∃ x y z : Int, sliceV false (.lst (ns.map .int)) (.int k) (.int ((k : Int) + 3)) σ = some (.ok (.lst [.int x, .int y, .int z]), σ) := by
  have h2 : k + 2 < ns.length := h
  have h1 : k + 1 < ns.length := Nat.lt_of_succ_lt h2
  have h0 : k < ns.length := Nat.lt_of_succ_lt h1
  refine ⟨ns[k], ns[k + 1], ns[k + 2], ?_⟩
  show onO (clamp 0 (.int k) (ns.map V.int).length) (fun a => onO (clamp (ns.map V.int).length (.int ((k + 3 : Nat) : Int)) (ns.map V.int).length) fun b => some (Res.ok (V.lst (cutL (ns.map V.int) a b)), σ)) = _
  rw [clamp_nat, clamp_nat, List.length_map, Nat.min_eq_left (Nat.le_of_lt h0), Nat.min_eq_left h]
  show some (Res.ok (V.lst (cutL (ns.map V.int) k (k + 3))), σ) = _
  unfold cutL
  rw [← List.map_take, ← List.map_drop, List.drop_take, Nat.add_sub_cancel_left, List.drop_eq_getElem_cons h0, List.drop_eq_getElem_cons h1, List.drop_eq_getElem_cons h2]; rfl
structure Vars (ns : List Int) (ss : List Str) (ρ : Rho) : Prop where
  s : ρ 0 = some (.lst (ns.map .int))
  l : ρ 1 = some (.ref (adr 0))
  m : ρ 2 = some (.ref (adr 9))
  q : ρ 3 = some (.ref (adr 11))
  p : ρ 4 = some (.lst (ss.map .str))
noncomputable def Wrld (σ : St) (m : Nat) : Prop := ∃ a r q Ls, Wd σ a r q Ls m m ∧ q.lk = false ∧ ∀ i, i ≠ 5 → a i = adr i
noncomputable def bodyM : List S := [.ite (.not (.fcall "_law_step" [(.var 1), (.var 2), (.var 3), (.var 4), (.slice false (.var 0) (.var 5) (.bin .add (.var 5) (.cInt 3)))])) [.ret (.cBool false)] []]
theorem rng3_len : ∀ m : Fin 64, (rngList 2 ((m.val : Int) - 2) 3).length ≤ 20 := by decide +kernel
theorem rng3_at : ∀ (m : Fin 64) (j : Fin 21), j.val < (((m.val : Int) - 2 - 2 + 3 - 1) / 3).toNat → 2 + 3 * j.val + 3 ≤ m.val := by decide +kernel
theorem rng3_all : ∀ m : Fin 64, Builtin.Range.small 2 ((m.val : Int) - 2) 3 = true ∧ Builtin.Range.rangeSize 2 ((m.val : Int) - 2) 3 = ((((m.val : Int) - 2 - 2 + 3 - 1) / 3).toNat : Int) ∧ (((m.val : Int) - 2 - 2 + 3 - 1) / 3).toNat ≤ lim := by decide +kernel
theorem main_all {n : Nat} {ns : List Int} {ss : List Str} {σ : St} {ρ : Rho} (V : Vars ns ss ρ) (h6 : ss.length = 6) (hl6 : ∀ (j : Nat) (x : Str), ss[j]? = some x → j ≠ 2 → x.length ≤ 20) (T : Wrld σ 20) (h63 : ns.length ≤ 63) : ∃ ρ' σ', loop (fun v ρ σ => execs P (run P (n + 10)) false true bodyM (upd ρ 5 v) σ) (rngList 2 ((ns.length : Int) - 2) 3) ρ σ = some (.next, ρ', σ') ∧ Vars ns ss ρ' ∧ Wrld σ' 0 := by
  have hlen : (rngList 2 ((ns.length : Int) - 2) 3).length ≤ 20 := by
    exact rng3_len ⟨ns.length, Nat.lt_succ_of_le h63⟩
  obtain ⟨ρ', σ', e, V', T'⟩ := loop_fold (f := fun v ρ σ => execs P (run P (n + 10)) false true bodyM (upd ρ 5 v) σ) (fun (_ : Unit) _ => ()) (fun m _ ρ σ => Vars ns ss ρ ∧ Wrld σ m) (rngList 2 ((ns.length : Int) - 2) 3) () ρ σ ⟨V, by obtain ⟨a, r, q, Ls, W, hk, ha⟩ := T; exact ⟨a, r, q, Ls, W.less hlen hlen, hk, ha⟩⟩ fun v hv m _ ρ σ ⟨V, a, r, q, Ls, W, hk, ha⟩ => by
    obtain ⟨j, hj, rfl⟩ := List.mem_map.mp hv
    rw [List.mem_range] at hj
    obtain ⟨x, y, z, ec⟩ := cut3 (σ := σ) (ns := ns) (k := 2 + 3 * j) (rng3_at ⟨ns.length, Nat.lt_succ_of_le h63⟩ ⟨j, Nat.lt_succ_of_le (Nat.le_of_lt (Nat.lt_of_lt_of_le hj (by unfold rngList at hlen; rw [List.length_map, List.length_range] at hlen; exact hlen)))⟩ hj)
    have ec : sliceV false (.lst (ns.map .int)) (.int (2 + 3 * (j : Int))) (.int (2 + 3 * (j : Int) + 3)) σ = some (.ok (.lst [.int x, .int y, .int z]), σ) := ec
    obtain ⟨ρ1, S, a', r', q', Ls', e1, W1, hk1, ha1⟩ := step_at (n := n) (ρ := rhoOf [.ref (a 0), .ref (a 9), .ref (a 11), .lst (ss.map .str), .lst [.int x, .int y, .int z]]) ⟨rfl, rfl, rfl, rfl, rfl⟩ W hk h6 hl6
    rw [ha 0 (by decide), ha 9 (by decide), ha 11 (by decide)] at e1
    have e2 : run P (n + 10) false "" "_law_step" [.ref (adr 0), .ref (adr 9), .ref (adr 11), .lst (ss.map .str), .lst [.int x, .int y, .int z]] [] σ = some (.ok (.bool true), S) := call_at (fn := f__law_step) rfl rfl rfl e1
    exact ⟨_, S, Ex.iteF (M := Mh (n + 10)) (.not (.fcall (.cons (.var V.l) (.cons (.var V.m) (.cons (.var V.q) (.cons (.var V.p) (.cons (.slice (.var V.s) (.var rfl) (.add (.var rfl) .cInt) ec) .nil))))) e2) rfl) rfl .nil, ⟨V.s, V.l, V.m, V.q, V.p⟩, a', r', q', Ls', W1, hk1, fun i hi => (ha1 i hi).trans (ha i hi)⟩
  exact ⟨ρ', σ', e, V', T'⟩
end Lw.L09
namespace Lw.L09
open PySem
theorem Wd.lock {σ : St} {a : Fin 12 → Nat} {r : Rm} {q : Qm} {Ls : List Ln} {m e : Nat} (t : Bool) (W : Wd σ a r q Ls m e) : Wd (σ.set (a 11) (.list t q.ls)) a r { q with lk := t } Ls m e := by
  have A : At (setA σ a [(11, .list t q.ls)]) a r { q with lk := t } := W.lot.sets _ (forall12 rfl rfl rfl rfl rfl rfl rfl rfl rfl rfl rfl rfl)
  exact { W with lot := A, law := { W.law with }, line := fun j L hj => (W.line j L hj).fr (FrA.sets [(11, .list t q.ls)] σ) }
theorem len_di {σ : St} {t : Nat} {l : Bool} {D : List (Int × V)} (h : σ.get t = some (.di l D)) : bfV .len [.ref t] σ = some (.ok (.int D.length), σ) := by
  show retV (((σ.get t).bind O.len).map _) σ = _
  rw [h]; rfl
noncomputable def bodyE : List S := [.ite (.not (.fcall "_law_turned" [(.idx (.var 6) (.cInt 0)), (.bin .add (.cInt 9) (.bin .mul (.cInt 8) (.bcall .len [(.idx (.var 2) (.cStr "mine"))]))), .cInt 0])) [.ret (.cBool false)] []]
theorem end_loop {n : Nat} {a : Fin 12 → Nat} {r : Rm} {q : Qm} : ∀ (k : Nat) (j : Nat) (Ls : List Ln) (ρ : Rho) (σ : St), Ls.length = j + k → Wd σ a r q Ls 0 0 → (∀ (i : Nat) (L : Ln), i < j → Ls[i]? = some L → L.had = r.last) → ρ 2 = some (.ref (a 9)) → ρ 3 = some (.ref (a 11)) →
    ∃ ρ' S Ls', loop (fun v ρ σ => execs P (run P (n + 10)) false true bodyE (upd ρ 6 v) σ) ((Ls.map lnV).drop j) ρ σ = some (.next, ρ', S) ∧ Wd S a r q Ls' 0 0 ∧ (∀ (i : Nat) (L : Ln), Ls'[i]? = some L → L.had = r.last) ∧ ρ' 2 = some (.ref (a 9)) ∧ ρ' 3 = some (.ref (a 11)) := by
  intro k
  induction k with
  | zero =>
    intro j Ls ρ σ hl W hh h1 h2
    exact ⟨ρ, σ, Ls, by rw [List.drop_of_length_le (by rw [List.length_map]; lia)]; rfl, W, fun i L hi => hh i L (by have := (List.getElem?_eq_some_iff.mp hi).1; lia) hi, h1, h2⟩
  | succ k ih =>
    intro j Ls ρ σ hl W hh h1 h2
    have hjl : j < Ls.length := by lia
    have hLj : Ls[j]? = some Ls[j] := List.getElem?_eq_getElem hjl
    have hd : (Ls.map lnV).drop j = lnV Ls[j] :: (Ls.map lnV).drop (j + 1) := by
      rw [List.drop_eq_getElem_cons (by rw [List.length_map]; exact hjl), List.getElem_map]
    rw [hd]
    generalize Ls[j] = L at hLj
    have hm := W.law.pm
    have hf := W.f
    have hpk := W.ok.pk
    have hla := Rm.H_len (r := r)
    obtain ⟨S, e, W1⟩ := turned_at (n := n + 5) (k := 9 + 8 * q.mine.length) (luck := 0) W hLj
    have ek : Ev (Mh (n + 10)) (upd ρ 6 (lnV L)) σ (.bin .add (.cInt 9) (.bin .mul (.cInt 8) (.bcall .len [(.idx (.var 2) (.cStr "mine"))]))) (.int ((9 + 8 * q.mine.length : Nat) : Int)) σ := .add .cInt (.mul (i := 8) .cInt (.bcall (.cons (.idx (.var h1) .cStr (item_ds (W.lot.at_ 9) rfl)) .nil) rfl (len_di (W.lot.at_ 10))) ⟨by decide, by lia⟩)
    have e1 : execs P (run P (n + 10)) false true bodyE (upd ρ 6 (lnV L)) σ = some (.next, upd ρ 6 (lnV L), S) := Ex.iteF (M := Mh (n + 10)) (.not (.fcall (.cons (.idx (.var rfl) .cInt rfl) (.cons ek (.cons .cInt .nil))) e) rfl) rfl .nil
    obtain ⟨ρ', S', Ls', el, W', hh', h1', h2'⟩ := ih (j + 1) (Ls.set j (L.turn r (9 + 8 * q.mine.length) 0)) (upd ρ 6 (lnV L)) S (by rw [List.length_set]; lia) W1 (fun i M hi hM => by
      rcases set_get hLj hM with ⟨_, rfl⟩ | ⟨hne, hM⟩
      · exact turn_had (by lia)
      · exact hh i M (by lia) hM) h1 h2
    rw [map_set (f := lnV) (M := L.turn r (9 + 8 * q.mine.length) 0) hLj rfl] at el
    exact ⟨ρ', S', Ls', (loop_next (f := fun v ρ σ => execs P (run P (n + 10)) false true bodyE (upd ρ 6 v) σ) e1).trans el, W', hh', h1', h2'⟩
theorem known {σ : St} {a : Fin 12 → Nat} {r : Rm} {q : Qm} {Ls : List Ln} {m e j : Nat} {L : Ln} (W : Wd σ a r q Ls m e) (hj : Ls[j]? = some L) (hh : L.had = r.last) : L.R = r.H.filter (wantR L.b L.p) := by
  have := (W.line j L hj).ear
  rw [hh, last_H] at this
  exact this.all W.ok.good.hist
noncomputable def bodyF : List S := [.assign 8 (.comp false (.var 9) 9 (.var 7) (.bool true [(.cmp .ge (.idx (.var 9) (.cInt 0)) (.idx (.var 6) (.cInt 2))), (.cmp .eq (.slice false (.idx (.var 9) (.cInt 3)) .cNone (.bcall .len [(.idx (.var 6) (.cInt 1))])) (.idx (.var 6) (.cInt 1)))])), .ite (.not (.fcall "_law_changes" [(.mcall (.attr (.idx (.var 6) (.cInt 0)) "ear") "heard" [] [] []), (.var 8)])) [.ret (.cBool false)] []]
theorem due_ev {M : Mc} {ρ : Rho} {σ : St} {t : Nat} {L : Ln} {H : List V} (hM : M.hd = false) (h6 : ρ 6 = some (lnV L)) (h7 : ρ 7 = some (.ref t)) (g : σ.get t = some (.list false H)) (hr : ∀ v ∈ H, IsRow v) :
    Ev M ρ σ (.comp false (.var 9) 9 (.var 7) (.bool true [(.cmp .ge (.idx (.var 9) (.cInt 0)) (.idx (.var 6) (.cInt 2))), (.cmp .eq (.slice false (.idx (.var 9) (.cInt 3)) .cNone (.bcall .len [(.idx (.var 6) (.cInt 1))])) (.idx (.var 6) (.cInt 1)))])) (.lst (H.filter (wantR L.b L.p))) σ := by
  have key := Ev.compF (M := M) (ρ := ρ) (σ := σ) (k := 9) (a := .var 7) (b := .var 9) (d := .bool true [(.cmp .ge (.idx (.var 9) (.cInt 0)) (.idx (.var 6) (.cInt 2))), (.cmp .eq (.slice false (.idx (.var 9) (.cInt 3)) .cNone (.bcall .len [(.idx (.var 6) (.cInt 1))])) (.idx (.var 6) (.cInt 1)))])
    (f := fun y => y) (p := wantR L.b L.p) hM (.var h7) (items_ref g) (relock g) (fun y hy => by
      obtain ⟨i, q, w, k, x, rfl⟩ := hr y hy
      have e6 : upd ρ 9 (row i q w k x) 6 = some (lnV L) := h6
      have ep : ∀ {S : St}, Ev M (upd ρ 9 (row i q w k x)) S (.idx (.var 6) (.cInt 1)) (.str L.p) S := .idx (.var e6) .cInt rfl
      have eb : ∀ {S : St}, Ev M (upd ρ 9 (row i q w k x)) S (.idx (.var 6) (.cInt 2)) (.int L.b) S := .idx (.var e6) .cInt rfl
      have ec : ∀ {S : St}, cmpV S .eq (.str ⟨(k.cps.toList.take L.p.cps.size).toArray⟩) (.str L.p) = some (preS L.p k) := by
        intro S
        show some ((⟨(k.cps.toList.take L.p.cps.size).toArray⟩ : Str) == L.p) = _
        rw [pre_eq]
      exact .and2 (p := decide (L.b ≤ i)) (q := preS L.p k) (.cmp (.idx (.var rfl) .cInt rfl) eb rfl) (.cmp (.slice (.idx (.var rfl) .cInt rfl) .cNone (.bcall (.cons ep .nil) rfl rfl) slice_to) ep ec)) (fun y hy _ => .var rfl)
  rw [List.map_id''] at key
  · exact key
  · intro _; rfl
theorem fin_loop {n t : Nat} {a : Fin 12 → Nat} {r : Rm} {q : Qm} {Ls : List Ln} (hh : ∀ (i : Nat) (L : Ln), Ls[i]? = some L → L.had = r.last) : ∀ (xs : List Ln) (ρ : Rho) (σ : St), (∀ L ∈ xs, ∃ j : Nat, Ls[j]? = some L) → Wd σ a r q Ls 0 0 → σ.get t = some (.list false r.H) → t < σ.n → ρ 7 = some (.ref t) →
    ∃ ρ' S, loop (fun v ρ σ => execs P (run P (n + 10)) false true bodyF (upd ρ 6 v) σ) (xs.map lnV) ρ σ = some (.next, ρ', S) := by
  intro xs
  induction xs with
  | nil =>
    intro ρ σ _ _ _ _ _
    exact ⟨ρ, σ, rfl⟩
  | cons L xs ih =>
    intro ρ σ hx W g ht h7
    obtain ⟨j, hj⟩ := hx L (List.mem_cons_self ..)
    have K := W.line j L hj
    have hR := known W hj (hh j L hj)
    have g1 : (σ.new (.list false L.R)).get σ.n = some (.list false L.R) := get_new_eq
    have ec := changes_at (σ := σ.new (.list false L.R)) (n + 7) σ.n (y := .lst L.R) (rs := L.R) g1 rfl rfl fun v hv => W.ok.row v (K.ear.sub.subset hv)
    have f1 : Fr [] σ ((σ.new (.list false L.R)).set σ.n (.list false [])) := Fr.set (Fr.new Fr.refl) (.inr (Nat.le_refl _))
    have ed := due_ev (M := Mh (n + 10)) (ρ := upd ρ 6 (lnV L)) rfl rfl h7 g W.ok.row
    rw [← hR] at ed
    have e1 : execs P (run P (n + 10)) false true bodyF (upd ρ 6 (lnV L)) σ = some (.next, upd (upd ρ 6 (lnV L)) 8 (.lst L.R), (σ.new (.list false L.R)).set σ.n (.list false [])) := Ex.assign (M := Mh (n + 10)) ed (.iteF (.not (.fcall (.cons (.mcall (.attr (.idx (.var rfl) .cInt rfl) (attr_at K.at_.line rfl)) (meth_at K.at_.ear.e rfl) .nil .nil (heard_run (n := n + 9) K.at_.ear)) (.cons (.var rfl) .nil)) ec) rfl) rfl .nil)
    obtain ⟨ρ', S, e⟩ := ih (upd (upd ρ 6 (lnV L)) 8 (.lst L.R)) _ (fun M hM => hx M (List.mem_cons_of_mem _ hM)) (W.fr f1) ((f1.at_ t ht (fun q => nomatch q)).trans g) (Nat.lt_of_lt_of_le ht f1.n) h7
    exact ⟨ρ', S, (loop_next (f := fun v ρ σ => execs P (run P (n + 10)) false true bodyF (upd ρ 6 v) σ) e1).trans e⟩
theorem nilS : (Str.ofString "").cps.toList = [] := by kernel_rfl
theorem first_all {σ : St} {a : Fin 12 → Nat} {r : Rm} {q : Qm} {Ls : List Ln} {m e : Nat} (W : Wd σ a r q Ls m e) (hh : ∀ (i : Nat) (L : Ln), Ls[i]? = some L → L.had = r.last) : ∃ L, Ls[0]? = some L ∧ L.R = r.H := by
  obtain ⟨L, h0, h1, h2⟩ := W.zero
  refine ⟨L, h0, (known W h0 (hh 0 L h0)).trans (List.filter_eq_self.mpr fun v hv => ?_)⟩
  have := (W.ok.good.hist.bound v hv).1
  show (decide (L.b ≤ numR v) && preR L.p v) = true
  rw [h1, h2, decide_eq_true (by lia)]
  obtain ⟨i, t, w, k, x, rfl⟩ := W.ok.row v hv
  show (true && List.isPrefixOf (Str.ofString "").cps.toList k.cps.toList) = true
  rw [nilS]; rfl
theorem end_at {n : Nat} {ns : List Int} {ss : List Str} {σ : St} {ρ : Rho} (V : Vars ns ss ρ) (T : Wrld σ 0) : ∃ ρ' σ', Ex (Mh (n + 10)) (f_law.body.drop 6) ρ σ (some (.ret (.bool true), ρ', σ')) := by
  obtain ⟨a, r, q, Ls, W, hk, ha⟩ := T
  have V3 : ρ 3 = some (.ref (a 11)) := by rw [ha 11 (by decide)]; exact V.q
  have V2 : ρ 2 = some (.ref (a 9)) := by rw [ha 9 (by decide)]; exact V.m
  have g11 : σ.get (a 11) = some (.list false q.ls) := by have := W.lot.at_ 11; rw [show objs r q a 11 = .list q.lk q.ls from rfl, hk] at this; exact this
  obtain ⟨ρ1, σ1, Ls1, e1, W1, hh, i2, i3⟩ := end_loop (n := n) (r := r) (q := { q with lk := true }) Ls.length 0 Ls ρ _ (by lia) (W.lock true) (fun i L hi => by lia) V2 V3
  rw [List.drop_zero, ← W.ls] at e1
  have eU : unlockV σ (.ref (a 11)) σ1 = σ1.set (a 11) (.list false q.ls) := unlock_ref g11
  have W2 := W1.lock false
  have hls : q.ls = Ls1.map lnV := W1.ls
  generalize hS : σ1.set (a 11) (.list false ({ q with lk := true } : Qm).ls) = σ2 at W2
  have hS : σ1.set (a 11) (.list false q.ls) = σ2 := hS
  obtain ⟨L, h0, hR⟩ := first_all W2 hh
  have K := W2.line 0 L h0
  have g2 : σ2.get (a 11) = some (.list false q.ls) := W2.lot.at_ 11
  have ei : idxV σ2 (.ref (a 11)) (.int 0) = some (lnV L) := by
    show (σ2.get (a 11)).bind (idxO (.int 0)) = _
    rw [g2]
    show (place 0 q.ls.length).bind (q.ls[·]?) = _
    rw [place_at (Int.le_refl _) (by rw [hls, List.length_map]; have := W2.pos; lia) (by decide)]
    show q.ls[0]? = _
    rw [hls, List.getElem?_map, h0]; rfl
  have eh := heard_run (n := n + 9) K.at_.ear
  rw [hR] at eh
  have W3 := W2.fr (S := σ2.new (.list false r.H)) (Fr.new Fr.refl)
  have g3 : (σ2.new (.list false r.H)).get σ2.n = some (.list false r.H) := get_new_eq
  have n3 : (σ2.new (.list false r.H)).n = σ2.n + 1 := rfl
  generalize σ2.new (.list false r.H) = σ3 at eh W3 g3 n3
  have hrb := W.rb
  obtain ⟨σ4, ea, f4⟩ := all_at (n := n + 7) (t := σ2.n) W3.lot (by rw [W3.law.now]; exact W3.law.tale) g3 (by lia) (fun i z => by have := W2.lot.lt i; lia) (by lia)
  have W4 := W3.fr f4
  have g4 : σ4.get σ2.n = some (.list false r.H) := (f4.at_ _ (by lia) (fun q => nomatch q)).trans g3
  have g5 : σ4.get (a 11) = some (.list false q.ls) := W4.lot.at_ 11
  have n4 := f4.n
  obtain ⟨ρ2, σ5, e5⟩ := fin_loop (n := n) (t := σ2.n) hh Ls1 (upd ρ1 7 (.ref σ2.n)) _ (fun M hM => by obtain ⟨i, hi⟩ := List.mem_iff_getElem?.mp hM; exact ⟨i, hi⟩) (W4.lock true) ((get_set_ne (fun z => by have := W2.lot.lt 11; lia)).trans g4) (by show σ2.n < σ4.n; lia) rfl
  rw [← hls] at e5
  exact ⟨ρ2, _, .for1 rfl (.var V3) (items_ref g11) (by rw [lock_ref g11]; exact e1) (by rw [eU, hS]; exact .assign (.mcall (.attr (.idx (.idx (.var i3) .cInt ei) .cInt rfl) (attr_at K.at_.line rfl)) (meth_at K.at_.ear.e rfl) .nil .nil eh) (.iteF (.not (.fcall (.cons (.var rfl) (.cons (.var i2) .nil)) ea) rfl) rfl (.for1 rfl (.var i3) (items_ref g5) (by rw [lock_ref g5]; exact e5) (.ret .cBool))))⟩
theorem rest_at {n : Nat} {ns : List Int} {ss : List Str} {σ : St} {ρ : Rho} (V : Vars ns ss ρ) (h63 : ns.length ≤ 63) (h6 : ss.length = 6) (hl6 : ∀ (j : Nat) (x : Str), ss[j]? = some x → j ≠ 2 → x.length ≤ 20) (T : Wrld σ 20) : ∃ ρ' σ', Ex (Mh (n + 10)) (f_law.body.drop 5) ρ σ (some (.ret (.bool true), ρ', σ')) := by
  obtain ⟨ρ1, σ1, e1, V1, T1⟩ := main_all (n := n) V h6 hl6 T h63
  obtain ⟨ρ2, σ2, e2⟩ := end_at (n := n) V1 T1
  have hlm : (ns.map Lw.V.int).length = ns.length := List.length_map ..
  refine ⟨ρ2, σ2, .for1 rfl (.bcall (.cons .cInt (.cons (.sub (.bcall (.cons (.var V.s) .nil) rfl rfl) .cInt) (.cons .cInt .nil))) rfl rfl) (if_pos (by rw [hlm]; exact rng3_all ⟨ns.length, Nat.lt_succ_of_le h63⟩)) (by rw [hlm]; exact e1) e2⟩
theorem law_at (n : Nat) (ns : List Int) (h63 : ns.length ≤ 63) : ∃ σ', run P (n + 12) false "" "law" [.lst (ns.map .int)] [] St.empty = some (.ok (.bool true), σ') := by
  obtain ⟨c, hc⟩ := cell_at (σ := stC) (n + 10) ns 0 (by decide)
  obtain ⟨d, hd⟩ := cell_at (σ := stC) (n + 10) ns 1 (by decide)
  obtain ⟨s, ss, h6, hs, hp⟩ := pool_at (σ := stC) (n + 8) c d
  have e1 := room_ev (n := n + 8) (ρ := rhoOf [.lst (ns.map .int)])
  have e2 := mine_ev (n := n + 8) (ρ := upd (rhoOf [.lst (ns.map .int)]) 1 (.ref 0))
  have e3 := lines_ev (n := n + 7) (ρ := rhoOf [.lst (ns.map .int)])
  have h0 := world0
  generalize stC = sC at hc hd hp e3 h0
  generalize stB' = sB at e2 e3
  generalize stA = sA at e1 e2
  have cc : Ev (Mh (n + 11)) (upd (upd (upd (upd (rhoOf [.lst (ns.map .int)]) 1 (.ref 0)) 2 (.ref 10)) 3 (.ref 16)) 4 (.lst ((s :: ss).map .str))) sC (.cmp .eq (.bin .mod (.fcall "_law_cell_at" [(.var 0), .cInt 1]) (.cInt 3)) (.cInt 0)) (.bool (d % 3 == 0)) sC := .cmp (.mod (.fcall (.cons (.var rfl) (.cons .cInt .nil)) hd) .cInt (by decide)) .cInt rfl
  have V0 : Vars ns (s :: ss) (upd (upd (upd (upd (rhoOf [.lst (ns.map .int)]) 1 (.ref 0)) 2 (.ref 10)) 3 (.ref 16)) 4 (.lst ((s :: ss).map .str))) := ⟨rfl, rfl, rfl, rfl, rfl⟩
  have go : ∀ {ρ' : Rho} {σ' : St}, Ex (Mh (n + 11)) (f_law.body.drop 4) (upd (upd (upd (upd (rhoOf [.lst (ns.map .int)]) 1 (.ref 0)) 2 (.ref 10)) 3 (.ref 16)) 4 (.lst ((s :: ss).map .str))) sC (some (.ret (.bool true), ρ', σ')) → run P (n + 12) false "" "law" [.lst (ns.map .int)] [] St.empty = some (.ok (.bool true), σ') := fun e => call_at (fn := f_law) rfl rfl rfl (.assign e1 (.assign e2 (.assign e3 (.assign (.fcall (.cons (.fcall (.cons (.var rfl) (.cons .cInt .nil)) hc) (.cons (.fcall (.cons (.var rfl) (.cons .cInt .nil)) hd) .nil)) hp) e))))
  cases h3 : d % 3 == 0 with
  | true =>
    rw [h3] at cc
    obtain ⟨S, r', q', ec, h1, hk⟩ := crowd_at (n := n + 1) (c := c) h0
    obtain ⟨ρ', σ', e⟩ := rest_at (n := n + 1) V0 h63 h6 hs ⟨adr, r', q', [line0], h1, hk, fun _ _ => rfl⟩
    exact ⟨σ', go (.iteT cc rfl (.expr (.fcall (.cons (.var rfl) (.cons (.var rfl) (.cons (.fcall (.cons (.var rfl) (.cons .cInt .nil)) hc) .nil))) ec) e))⟩
  | false =>
    rw [h3] at cc
    obtain ⟨ρ', σ', e⟩ := rest_at (n := n + 1) V0 h63 h6 hs ⟨adr, room0, law0, [line0], h0.less (by decide) (by decide), rfl, fun _ _ => rfl⟩
    exact ⟨σ', go (.iteF cc rfl e)⟩
end Lw.L09
open PySem PySem.W PyProof.Rows
namespace Lw.L09
noncomputable abbrev Pr : Program := PySem.Challenge.rw_uf040027_09.row.prog
noncomputable def V : Program := viewOf Pr
noncomputable def Xt (s : Shared) : Bool := xlAt V [] s && recOk (RowW.records PySem.Challenge.rw_uf040027_09.row.toRowW) s
noncomputable def as : List Addr := [3, 29, 35, 36, 42, 43, 49, 50, 56, 57, 59, 60, 72, 78, 79, 85, 86, 88, 89, 102, 103, 115, 116, 127, 128, 139, 140, 151, 152, 163, 164, 175, 176, 191, 192, 198, 199, 205, 206, 212, 213, 219, 220, 226, 227, 229, 230, 247, 248, 254, 255, 261, 262, 268, 269, 275, 276, 282, 283, 285, 286, 303, 304, 306, 307, 324, 325, 331, 332, 338, 339, 345, 346, 350, 351, 357, 358, 364, 365, 371, 372, 373, 379, 380, 381, 387, 388, 394, 395, 401, 402, 406, 407, 413, 414, 420, 421, 427, 428, 434, 435, 441, 442, 448, 449, 455, 456, 462, 463, 469, 470, 472, 473, 483, 484, 490, 491, 497, 498, 502, 503, 509, 510, 516, 517, 523, 524, 530, 531, 537, 538, 544, 545, 551, 552, 558, 559, 565, 566, 572, 573, 579, 580, 586, 587, 593, 594, 600, 601, 607, 608, 614, 615, 619, 620]
theorem t1 : opening Pr = plainProg Pr.main.scope.names := by kernel_rfl
theorem t2 (s : Shared) : fenceModules? Pr s = some s := by kernel_rfl
theorem t3 (w : World) : (boot_heap w.params).isNs mainGlobals = true := by kernel_rfl
theorem ranA (w : World) (os : OsState) : (topT Pr w 4800 os).map (fun s => ((PySem.W.Fast.tw4187177175401517315 V [] (importedModules Pr.main.body) Xt true s.abs).1, (PySem.W.Fast.tw4187177175401517315 V [] (importedModules Pr.main.body) Xt true s.abs).2.1)) = some (expectedOf V, bltViewBooted) := by kernel_rfl
theorem ranB (w : World) (os : OsState) : (topT Pr w 4800 os).map (fun s => ((PySem.W.Fast.tw4187177175401517315 V [] (importedModules Pr.main.body) Xt true s.abs).2.2.1, (PySem.W.Fast.tw4187177175401517315 V [] (importedModules Pr.main.body) Xt true s.abs).2.2.2.1)) = some (true, true) := by kernel_rfl
theorem ranC (w : World) (os : OsState) : (topT Pr w 4800 os).map (fun s => ((PySem.W.Fast.tw4187177175401517315 V [] (importedModules Pr.main.body) Xt true s.abs).2.2.2.2.1, (PySem.W.Fast.tw4187177175401517315 V [] (importedModules Pr.main.body) Xt true s.abs).2.2.2.2.2.1)) = some (pinGoodD (drecsOf V), plainGoodE V (looseW V [])) := by kernel_rfl
theorem ranD (w : World) (os : OsState) : (topT Pr w 4800 os).map (fun s => (topChk Pr w.params s.abs, (PySem.W.Fast.tw4187177175401517315 V [] (importedModules Pr.main.body) Xt true s.abs).2.2.2.2.2.2)) = some (true, plainGoodD V [], wideGood V, clsGoodW V []) := by kernel_rfl
theorem ranE (w : World) (os : OsState) : (topT Pr w 4800 os).map (fun s => (tbl.take 26).all (entOk (fragOf as s.abs) com)) = some true := by kernel_rfl
theorem ranF (w : World) (os : OsState) : (topT Pr w 4800 os).map (fun s => ((tbl.drop 26).all (entOk (fragOf as s.abs) com), comOk (fragOf as s.abs) com sub tbl)) = some (true, true) := by kernel_rfl
theorem ran (w : World) : (endsOf Pr 4800 w).map (fun s => (tbl.all (entOk (fragOf as s) com), comOk (fragOf as s) com sub tbl)) = some (true, true) := ends_by t1 rfl t2 (t3 w) (fun os => (map_fst (ranD w os)).1) fun os => all_two 26 (ranE w os) (ranF w os)
theorem seen (w : World) : (endsOf Pr 4800 w).map (fun s => openSeen V [] (importedModules Pr.main.body) Xt true s) = some (openGood V []) := ends_by t1 rfl t2 (t3 w) (fun os => (map_fst (ranD w os)).1) fun os => seen_by (ranA w os) (ranB w os) (ranC w os) (map_fst (ranD w os)).2
theorem left : LeftO Pr V [] Xt (fun s => some s.heap) (fun w => (endsOf Pr 4800 w).map (·.heap)) 4800 := left_of (p := Pr) (q := V) (loose := []) (Xt := Xt) (N := 4800) seen
end Lw.L09
open PySem PySem.W PyProof.Rows
namespace Lw.L09
noncomputable abbrev R := PySem.Challenge.rw_uf040027_09
theorem h1 : defOf V R.row.name = some (defD V (Str.ofString "law"), []) := by kernel_rfl
theorem h2 : R.row.prog.theDef R.row.name = some ((defD V (Str.ofString "law")).params, (defD V (Str.ofString "law")).body, (defD V (Str.ofString "law")).scope) := by kernel_rfl
theorem h3 : kwWritten? (defD V (Str.ofString "law")).params.kwonlyargs (defD V (Str.ofString "law")).params.kw_defaults = some [] := by kernel_rfl
theorem h4 : (!R.row.writes || R.row.toRowW.records.isEmpty) = true := by kernel_rfl
theorem h5 : (chainsOk V && opensWell R.row.prog && (frees R.row.toRowW && R.row.toRowW.within.isEmpty)) = true := by kernel_rfl
theorem hn : namesResolve Pr = true := by kernel_rfl
theorem hm : namesMeet Pr Pr.main.body (fun _ n => attrL n) = true := by kernel_rfl
theorem hr : (["vars", "dir", "locals"] : List Str).filter (readsOut Pr Pr.main.body) = [] := by kernel_rfl
theorem h6 : R.wellSaid = true := by
  unfold OpenLaw.wellSaid OpenRow.wellSaid OpenRow.partSaid looksOpen
  rw [show namesResolve R.row.prog = true from hn, show namesMeet R.row.prog R.row.prog.main.body (fun _ n => attrL n) = true from hm, show (["vars", "dir", "locals"] : List Str).filter (readsOut R.row.prog R.row.prog.main.body) = [] from hr]
  kernel_rfl
end Lw.L09
set_option maxRecDepth 100000 in
set_option maxHeartbeats 1000000 in
theorem PySem.Challenge.cw_uf040027_09_holds : PySem.Challenge.rw_uf040027_09.Holds := by
  refine holds_law Lw.L09.h6 fun said => ?_
  refine holds_open (r := PySem.Challenge.rw_uf040027_09.row) (q := Lw.L09.V) (loose := []) (Xt := Lw.L09.Xt) (XP := XL Lw.L09.V []) (YP := Lw.saysOf PySem.Challenge.rw_uf040027_09.row.prog 4800)
    (d := Lw.defD Lw.L09.V (Str.ofString "law")) (kwd := []) (N := 4800) Lw.L09.left (Lw.says_of _ _) (Lw.says_keeps _ _) (fun s e => xl_of s (Bool.and_eq_true_iff.mp e).1) XL.keeps Lw.L09.h1 Lw.L09.h2 Lw.L09.h3 (fun s e => recFacts_of (Bool.and_eq_true_iff.mp e).2)
    Lw.L09.h4 said Lw.L09.h5 ⟨rfl, rfl, rfl, rfl, rfl, by decide +kernel⟩ ?hw ?hc
  case hw => w_witness2
  intro w s₀ s₁ mg mb G Y fa o pm cd doc dV kV ho hd hcd hD hmg hg args vals as hpre hlay hrd hwl hlo
  refine Ground.open G ?_
  intro T B D TE TW
  wrow_args hpre hlay hrd hwl hlo
  rename_i ns _ _ _ _ _ _ _ l vs _ hL _ _ _ hI _ hcond _
  obtain ⟨K, KX, hE, hC⟩ := Lw.frag_by (Lw.L09.ran w) Y
  refine Lw.law_top (G := ⟨PySem.Challenge.rw_uf040027_09.row.prog, w, K, mg, mb, Lw.L09.P, Lw.L09.com⟩) (sub := Lw.L09.sub) (n := 12) rfl KX T.g T.b T.nolimit T.builtins hmg hE hC Lw.sortStrs (fun _ => Lw.sortPairs) rfl hL hI (by lia) (by decide) (Lw.L09.law_at 0 ns (by lia)) fun s' hs hk => ?_
  obtain ⟨h', tk, rfl⟩ := hs
  refine GoodW.toG ⟨.inl ⟨.bool true, .bool true, [], rfl, fun _ => rfl, .bool true, ?_, fun _ => ⟨List.nodup_nil, fun a ha => (by cases ha)⟩⟩, hk, rfl, hg⟩
  first | rfl | kernel_rfl
